/- Arguments as blocks that are read alone. -/
import Derived.ProofKit
import Derived.WalkKit
import Derived.Orders
import Derived.Test.YtlceligcgelbdaaGreatJA4
set_option linter.unusedVariables false
set_option linter.unusedSimpArgs false
namespace Go.CE
open Go.RowKit
open Go.ChangeShapes Go.WideShapes
inductive Tt where
 | v (x:Value)
 | sl (size:Nat) (es:List (List Tt))
inductive TT where
 | b
 | i (k:IntKind)
 | s
 | sl (size:Nat) (es:List TT)
def TT.fields (P:Program) (g:TypeId→Option (List TT)):Nat→List Field→Option (List TT)
 | _,[]=>some []
 | off,f::r=>match g f.type with
  | some sh=>if f.offset=off∧sh.length=P.cellsOf f.type then (TT.fields P g (off+sh.length) r).map (sh++·) else none
  | none=>none
def TT.of (P:Program):Nat→TypeId→Option (List TT)
 | 0,_=>none
 | n+1,t=>match P.underlying t with
  | some .bool=>some [.b]
  | some (.int k)=>some [.i k]
  | some .string=>some [.s]
  | some (.slice e)=>match TT.of P n e with
   | some sh=>if 0<P.cellsOf e∧sh.length=P.cellsOf e then some [.sl (P.cellsOf e) sh] else none
   | none=>none
  | some (.struct fs)=>match TT.fields P (TT.of P n) 0 fs.toList with
   | some sh=>if sh.length=P.cellsOf t then some sh else none
   | none=>none
  | _=>none
inductive TOk:TT→Tt→Prop where
 | b (x:Bool):TOk .b (.v (.bool x))
 | i (k:IntKind) (n:Int) (h:(Lit.int k n).wf=true):TOk (.i k) (.v (.int k n))
 | s (x:ByteArray) (h:x.size≤maxLen):TOk .s (.v (.string x))
 | sl (size:Nat) (sh:List TT) (es:List (List Tt)) (hm:es.length≤maxLen) (hl:∀ e,e∈es→e.length=sh.length)
   (h:∀ (e:List Tt) (i:Nat) (a:TT) (u:Tt),e∈es→sh[i]? = some a→e[i]? = some u→TOk a u):TOk (.sl size sh) (.sl size es)
inductive TN (S:Nat→Prop) (w:World):Tt→Value→Prop where
 | v (x:Value) (h1:x.oneCell'=true):TN S w (.v x) x
 | nil (size:Nat):TN S w (.sl size []) (.slice none 0 0)
 | sl (size:Nat) (es:List (List Tt)) (A:Addr) (cap:Nat) (f:Nat→Nat→Value) (hc:es.length≤cap) (hm:cap≤maxLen) (hz:∀ e,e∈es→e.length=size)
   (hA:es=[]∨∃ b o,A=⟨b,o,none⟩∧S b∧∀ k i,k<es.length→i<size→w.cell? ⟨b,o+(k * size+i),none⟩=some (f k i))
   (hf:∀ (k i:Nat) (e:List Tt) (t:Tt),es[k]? = some e→e[i]? = some t→TN S w t (f k i)):TN S w (.sl size es) (.slice (some A) es.length cap)
def All3 (R:TT→Tt→Value→Prop):List TT→List Tt→List Value→Prop
 | [],[],[]=>True
 | a::aq,b::bs,c::cs=>R a b c∧All3 R aq bs cs
 | _,_,_=>False
theorem All3.append {R:TT→Tt→Value→Prop}:∀ {aq:List TT} {bs:List Tt} {cs:List Value} {aq':List TT} {bs':List Tt} {cs':List Value},All3 R aq bs cs→All3 R aq' bs' cs'→All3 R (aq++aq') (bs++bs') (cs++cs')
 | [],[],[],_,_,_,_,h=>h
 | a::aq,b::bs,c::cs,_,_,_,h,h'=>⟨h.1,All3.append h.2 h'⟩
 | [],_::_,_,_,_,_,h,_=>by simp [All3] at h
 | [],[],_::_,_,_,_,h,_=>by simp [All3] at h
 | _::_,[],_,_,_,_,h,_=>by simp [All3] at h
 | _::_,_::_,[],_,_,_,h,_=>by simp [All3] at h
theorem All3.len {R:TT→Tt→Value→Prop}:∀ {aq:List TT} {bs:List Tt} {cs:List Value},All3 R aq bs cs→bs.length=aq.length∧cs.length=aq.length
 | [],[],[],_=>⟨rfl,rfl⟩
 | a::aq,b::bs,c::cs,h=>by have:=All3.len h.2;simp [this.1,this.2]
 | [],_::_,_,h=>by simp [All3] at h
 | [],[],_::_,h=>by simp [All3] at h
 | _::_,[],_,h=>by simp [All3] at h
 | _::_,_::_,[],h=>by simp [All3] at h
theorem All3.get {R:TT→Tt→Value→Prop}:∀ {aq:List TT} {bs:List Tt} {cs:List Value},All3 R aq bs cs→∀ {i:Nat} {a:TT} {b:Tt},aq[i]? = some a→bs[i]? = some b→∃ c,cs[i]? = some c∧R a b c
 | [],[],[],_,i,a,b,h1,_=>by simp at h1
 | a::aq,b::bs,c::cs,h,i,a',b',h1,h2=>by
  cases i with
  | zero =>
   simp at h1 h2
   subst h1;subst h2
   exact ⟨c,by simp,h.1⟩
  | succ i =>
   simp at h1 h2
   obtain ⟨c',h3,h4⟩:=All3.get h.2 h1 h2
   exact ⟨c',by simpa using h3,h4⟩
 | [],_::_,_,h,_,_,_,_,_=>by simp [All3] at h
 | [],[],_::_,h,_,_,_,_,_=>by simp [All3] at h
 | _::_,[],_,h,_,_,_,_,_=>by simp [All3] at h
 | _::_,_::_,[],h,_,_,_,_,_=>by simp [All3] at h
section
variable {H:Type} {enc:TypeId×Value→H} {P:Program} {w:World} {base:Nat} {sp:Nat→Bool} {held:Bool}
theorem cells?_get {a:Addr} {n:Nat} {cs:List Value} (h:w.cells? base a n=some cs):cs.length=n∧∀ i,i<n→w.cell? (a.add i)=cs[i]?:=by
  unfold World.cells? at h
  split at h
  · refine ⟨by simpa using mapM_some_length h, fun i hi => ?_⟩
    exact mapM_some_get h i i (by simp [hi])
  · cases h
theorem cell_plain {a:Addr} {v:Value} (h:w.cell? a=some v):a.spot=none∧a.block<w.heap.size:=by
 unfold World.cell? at h
 split at h
 ·rename_i c x y hb
  split at h
  ·cases h
  rename_i hs
  refine ⟨by simpa using hs,?_⟩
  exact (Array.getElem?_eq_some_iff.1 hb).1
 cases h
abbrev TRd (w:World):TT→Tt→Value→Prop:=fun a u v=>TOk a u∧TN (fun b=>b<w.heap.size) w u v
theorem trod_fields {g:TypeId→Option (List TT)} {fuel:Nat}
  (hg:∀ {t:TypeId} {sh:List TT} {cs:List Value} {x:DataW H×List MemPlace},g t=some sh→DataW.trod enc P w base sp held fuel t cs=some x→∃ us,All3 (TRd w) sh us cs) :
  ∀ (fs:List Field) (off:Nat) (sh:List TT) (cs:List Value),TT.fields P g off fs=some sh→off+sh.length=cs.length →
   (∀ f,f∈fs→∃ x,DataW.trod enc P w base sp held fuel f.type ((cs.drop f.offset).take (P.cellsOf f.type))=some x)→∃ us,All3 (TRd w) sh us (cs.drop off)
 | [],off,sh,cs,h,hl,_=>by
  simp [TT.fields] at h
  subst h
  refine ⟨[],?_⟩
  rw [List.drop_eq_nil_of_le (by simp at hl;omega)]
  trivial
 | f::r,off,sh,cs,h,hl,hx=>by
  unfold TT.fields at h
  cases hgf:g f.type with
  | none=>rw [hgf] at h;cases h
  | some s1 =>
   rw [hgf] at h
   simp only at h
   split at h
   case isFalse=>cases h
   rename_i hc
   obtain ⟨hoff,hsz⟩:=hc
   cases hr:TT.fields P g (off+s1.length) r with
   | none=>rw [hr] at h;cases h
   | some s2 =>
    rw [hr] at h
    simp at h
    subst h
    rw [List.length_append] at hl
    obtain ⟨us2,h2⟩:=trod_fields hg r (off+s1.length) s2 cs hr (by omega) fun f hf=>hx f (by simp [hf])
    obtain ⟨x,hxx⟩:=hx f (by simp)
    obtain ⟨us1,h1⟩:=hg hgf hxx
    refine ⟨us1++us2,?_⟩
    have e:cs.drop off=(cs.drop f.offset).take (P.cellsOf f.type)++cs.drop (off+s1.length):=by
     rw [hoff,← hsz,← List.drop_drop,List.take_append_drop]
    rw [e]
    exact h1.append h2
theorem trod_tree:∀ (n fuel:Nat) {t:TypeId} {sh:List TT} {cs:List Value} {x:DataW H×List MemPlace},TT.of P n t=some sh→DataW.trod enc P w base sp held fuel t cs=some x→∃ us,All3 (TRd w) sh us cs
 | 0,_,_,_,_,_,h,_=>by simp [TT.of] at h
 | n+1,fuel,t,sh,cs,x,h,hx=>by
  unfold TT.of at h
  cases hu:P.underlying t with
  | none=>rw [hu] at h;cases h
  | some d =>
   rw [hu] at h
   cases fuel with
   | zero=>simp [DataW.trod] at hx
   | succ m =>
    cases d<;>simp only [reduceCtorEq] at h
    case bool =>
     injection h with h;subst h
     unfold DataW.trod at hx
     rw [hu] at hx
     split at hx<;>simp_all
     rename_i b
     exact ⟨[.v (.bool b)],⟨.b b,.v _ rfl⟩,trivial⟩
    case int k =>
     injection h with h;subst h
     unfold DataW.trod at hx
     rw [hu] at hx
     split at hx<;>simp_all
     obtain ⟨⟨h1,h2⟩,_⟩:=hx
     exact ⟨[.v (.int _ _)],⟨.i _ _ h2,.v _ rfl⟩,trivial⟩
    case string =>
     injection h with h;subst h
     unfold DataW.trod at hx
     rw [hu] at hx
     split at hx<;>simp_all
     exact ⟨[.v (.string _)],⟨.s _ hx.1,.v _ rfl⟩,trivial⟩
    case slice e =>
     cases he:TT.of P n e with
     | none=>rw [he] at h;cases h
     | some sh1 =>
      rw [he] at h
      simp only at h
      split at h
      case isFalse=>cases h
      rename_i hc
      obtain ⟨hpos,hlen⟩:=hc
      injection h with h;subst h
      rcases DataW.trod_slice hu hx with ⟨hcs,_⟩ | ⟨a,len,cap,elems,rest,m',hm',hcs,_,_,hl,hcap,hel,hread,_⟩
      ·subst hcs
       refine ⟨[.sl (P.cellsOf e) []],⟨.sl _ _ _ (by simp) (by simp) (by simp),?_⟩,trivial⟩
       exact .nil _
      subst hcs
      have key:∀ k,∃ (cs':List Value) (us:List Tt),k<len→w.cells? base (a.add (k * P.cellsOf e)) (P.cellsOf e)=some cs'∧All3 (TRd w) sh1 us cs':=by
       intro k
       by_cases hk:k<len
       ·have h1:=hread k hk
        have h2:∃ y,elems[k]? = some y:=⟨_,List.getElem?_eq_getElem (by omega)⟩
        obtain ⟨y,hy⟩:=h2
        rw [hy] at h1
        simp only [Option.bind_eq_some_iff] at h1
        obtain ⟨c1,hc1,hy1⟩:=h1
        obtain ⟨us,hus⟩:=trod_tree n m' he hy1
        exact ⟨c1,us,fun _=>⟨hc1,hus⟩⟩
       exact ⟨[],[],fun h=>absurd h hk⟩
      let ccs:Nat→List Value:=fun k=>Classical.choose (key k)
      let uss:Nat→List Tt:=fun k=>Classical.choose (Classical.choose_spec (key k))
      have hspec:∀ k,k<len→w.cells? base (a.add (k * P.cellsOf e)) (P.cellsOf e)=some (ccs k)∧All3 (TRd w) sh1 (uss k) (ccs k):=fun k=>Classical.choose_spec (Classical.choose_spec (key k))
      have hcell:∀ k i,k<len→i<P.cellsOf e→w.cell? ((a.add (k * P.cellsOf e)).add i)=some ((ccs k).getD i undef):=by
       intro k i hk hi
       obtain ⟨h1,h2⟩:=cells?_get (hspec k hk).1
       rw [h2 i hi,List.getD_eq_getElem?_getD,List.getElem?_eq_getElem (by omega)];rfl
      have hes:((List.range len).map uss).length=len:=by simp
      have hmem:∀ e',e'∈(List.range len).map uss→∃ k,k<len∧e'=uss k:=by
       intro e' he'
       obtain ⟨k,hk,rfl⟩:=List.mem_map.1 he'
       exact ⟨k,by simpa using hk,rfl⟩
      have hspot:len=0∨a.spot=none∧a.block<w.heap.size:=by
       by_cases h0:len=0
       ·exact .inl h0
       right
       have:=hcell 0 0 (by omega) hpos
       have e0:(a.add (0 * P.cellsOf e)).add 0=a:=by simp [Addr.add]
       rw [e0] at this
       exact cell_plain this
      have hT:TN (fun b=>b<w.heap.size) w (.sl (P.cellsOf e) ((List.range len).map uss)) (.slice (some a) ((List.range len).map uss).length cap):=by
       refine .sl _ _ a cap (fun k i=>(ccs k).getD i undef) (by rw [hes];exact hl) hcap ?_ ?_ ?_
       ·intro e' he'
        obtain ⟨k,hk,rfl⟩:=hmem e' he'
        rw [(hspec k hk).2.len.1,hlen]
       ·rcases hspot with h0 | ⟨hs,hb⟩
        ·left;subst h0;rfl
        right
        refine ⟨a.block,a.off,by cases a;simp_all,hb,fun k i hk hi=>?_⟩
        rw [hes] at hk
        rw [← hcell k i hk hi]
        congr 1
        unfold Addr.add
        cases a
        simp only at hs
        subst hs
        by_cases e1:k * P.cellsOf e=0<;>by_cases e2:i=0<;>simp [e1,e2,Nat.add_assoc]
       intro k i e' u hk hi
       have hkl:k<len:=by
        have:=(List.getElem?_eq_some_iff.1 hk).1
        simpa using this
       rw [List.getElem?_map,List.getElem?_range hkl] at hk
       injection hk with hk
       subst hk
       have hA:=(hspec k hkl).2
       have hil:i<sh1.length:=by rw [← hA.len.1];exact (List.getElem?_eq_some_iff.1 hi).1
       obtain ⟨c,hc1,hc2⟩:=hA.get (List.getElem?_eq_getElem hil) hi
       have:(ccs k).getD i undef=c:=by rw [List.getD_eq_getElem?_getD,hc1];rfl
       rw [this]
       exact hc2.2
      rw [hes] at hT
      refine ⟨[.sl (P.cellsOf e) ((List.range len).map uss)],⟨.sl _ _ _ (by rw [hes];omega) ?_ ?_,hT⟩,trivial⟩
      ·intro e' he'
       obtain ⟨k,hk,rfl⟩:=hmem e' he'
       exact (hspec k hk).2.len.1
      intro e' i a' u he' h1 h2
      obtain ⟨k,hk,rfl⟩:=hmem e' he'
      obtain ⟨c,hc1,hc2⟩:=(hspec k hk).2.get h1 h2
      exact hc2.1
    case struct fs =>
     cases hf:TT.fields P (TT.of P n) 0 fs.toList with
     | none=>rw [hf] at h;cases h
     | some s1 =>
      rw [hf] at h
      simp only at h
      split at h
      case isFalse=>cases h
      rename_i hc
      injection h with h;subst h
      obtain ⟨xs,m',hm',_,hcl,hxl,hget⟩:=DataW.trod_struct hu hx
      have:=trod_fields (enc:=enc) (P:=P) (w:=w) (base:=base) (sp:=sp) (held:=held) (g:=TT.of P n) (fuel:=m') (fun h1 h2=>trod_tree n m' h1 h2) fs.toList 0 s1 cs hf (by omega) fun f hfm=>by
       obtain ⟨i,hi,he⟩:=List.getElem_of_mem hfm
       have h1:=hget i f (by rw [← he];simp)
       rw [List.getElem?_eq_getElem (by rw [hxl];simpa using hi)] at h1
       exact ⟨_,h1⟩
      simpa using this
end
inductive TZ (z:Mem):Tt→C→Prop where
 | v (x:Value) (h:x.oneCell'=true):TZ z (.v x) (.v x)
 | nil (size:Nat):TZ z (.sl size []) (.v (.slice none 0 0))
 | em (size:Nat):TZ z (.sl size []) .em
 | sl (size:Nat) (es:List (List Tt)) (b:Nat) (cs:List C) (g:Nat→Nat→C) (hb:z b (.ro cs)) (hm:es.length≤maxLen) (hl:cs.length=es.length * size) (he:∀ e,e∈es→e.length=size)
   (hc:∀ k i,k<es.length→i<size→cs[k * size+i]? = some (g k i)) (hf:∀ (k i:Nat) (e:List Tt) (u:Tt),es[k]? = some e→e[i]? = some u→TZ z u (g k i)):TZ z (.sl size es) (.sl b 0 es.length size)
theorem TZ.mono {z z':Mem} (hz:zle z z') {u:Tt} {c:C} (h:TZ z u c):TZ z' u c:=by
 induction h with
 | v x h=>exact .v x h
 | nil s=>exact .nil s
 | em s=>exact .em s
 | sl size es b cs g hb hm hl he hc hf ih=>exact .sl size es b cs g (hz _ _ hb) hm hl he hc ih
structure En (K:Nat→Prop) (w:World) (t:Tr Blk) (ρ:Plan) (nx:Nat):Prop where
 sat:MSat K w ρ t.m w
 free:∀ b,nx≤b→ρ b=none
 lt:∀ b k,t.get b=some k→b<nx
abbrev EnQ (K:Nat→Prop) (w:World) (t:Tr Blk) (ρ:Plan) (nx:Nat) (Q:Tr Blk→Plan→Prop):Prop:=∃ t' ρ' nx',En K w t' ρ' nx'∧ρ.le ρ'∧nx≤nx'∧zle t.m t'.m∧Q t' ρ'
section
variable {K:Nat→Prop} {w:World}
theorem MSat.ro {ρ:Plan} {m m':Mem} {nx:Nat} (h:MSat K w ρ m w) (hn:ρ nx=none) {cs:List C} {la:Pl} (hk:BlkRep (upd ρ nx la) w la (.ro cs)) (hK:K la.b)
  (hm':∀ b k',m' b k'→(b=nx∧k'=.ro cs)∨(b≠nx∧m b k')):MSat K w (upd ρ nx la) m' w:=by
 have hle:=(grown_upd hn la).le
 refine ⟨fun b k hb=>?_,fun b k l hb hl=>?_,fun b b' k1 k2 l l' h1 h2 h3 h4 r1 r2 h5=>?_,h.kept,h.fr⟩
 ·rcases hm' b k hb with ⟨rfl,rfl⟩ | ⟨hne,hm⟩
  ·exact ⟨la,upd_same _ _ _,hk⟩
  obtain ⟨l,h1,h2⟩:=h.blk b k hm
  exact ⟨l,hle _ _ h1,h2.mono hle rfl⟩
 ·rcases hm' b k hb with ⟨rfl,rfl⟩ | ⟨hne,hm⟩
  ·rw [upd_same] at hl;injection hl with hl;subst hl
   exact ⟨fun hr=>(by cases hr),fun _=>hK,h.kept _ hK⟩
  rw [upd_other _ _ _ _ hne] at hl
  exact h.own b k l hm hl
 rcases hm' b k1 h1 with ⟨rfl,rfl⟩ | ⟨hne,hm⟩
 ·cases r1
 rcases hm' b' k2 h2 with ⟨rfl,rfl⟩ | ⟨hne',hm2⟩
 ·cases r2
 rw [upd_other _ _ _ _ hne] at h3
 rw [upd_other _ _ _ _ hne'] at h4
 exact h.inj b b' k1 k2 l l' hm hm2 h3 h4 r1 r2 h5
theorem En.ro {t:Tr Blk} {ρ:Plan} {nx:Nat} (h:En K w t ρ nx) {cs:List C} {la:Pl} (hk:BlkRep (upd ρ nx la) w la (.ro cs)) (hK:K la.b):En K w (Tr.put (nx+1) t nx (some (.ro cs))) (upd ρ nx la) (nx+1):=by
 have hg:∀ b,(Tr.put (nx+1) t nx (some (Blk.ro cs))).get b=if nx=b then some (.ro cs) else t.get b:=fun b=>by rw [Tr.get_put _ _ _ _ _ (by omega)]
 refine ⟨h.sat.ro (h.free nx (Nat.le_refl _)) hk hK fun b k' hb=>?_,fun b hb=>?_,fun b k hb=>?_⟩
 ·have hb:(Tr.put (nx+1) t nx (some (Blk.ro cs))).get b=some k':=hb
  rw [hg] at hb
  split at hb
  ·rename_i e;injection hb with hb;exact .inl ⟨e.symm,hb.symm⟩
  rename_i e;exact .inr ⟨fun e'=>e e'.symm,hb⟩
 ·rw [upd_other _ _ _ _ (by omega)];exact h.free b (by omega)
 rw [hg] at hb
 split at hb
 ·omega
 have:=h.lt b k hb;omega
def EnP (K:Nat→Prop) (w:World) (u:Tt) (x:Value):Prop:=∀ t ρ nx,En K w t ρ nx→∃ c,EnQ K w t ρ nx fun t' ρ'=>TZ t'.m u c∧CRep ρ' c x
theorem en_list:∀ (l:List (Tt×Value)),(∀ p,p∈l→EnP K w p.1 p.2)→∀ t ρ nx,En K w t ρ nx→∃ cs:List C,EnQ K w t ρ nx fun t' ρ'=>cs.length=l.length∧∀ (i:Nat) (p:Tt×Value),l[i]? = some p→∃ c,cs[i]? = some c∧TZ t'.m p.1 c∧CRep ρ' c p.2:=by
 intro l
 induction l with
 | nil=>intro _ t ρ nx h;exact ⟨[],t,ρ,nx,h,Plan.le_refl _,Nat.le_refl _,zle.refl _,rfl,fun i p hp=>by simp at hp⟩
 | cons p l ih =>
  intro hp t ρ nx h
  obtain ⟨c,t1,ρ1,n1,g1,g2,g3,g4,g5,g6⟩:=hp p (List.mem_cons_self ..) t ρ nx h
  obtain ⟨cs,t2,ρ2,n2,k1,k2,k3,k4,k5,k6⟩:=ih (fun q hq=>hp q (List.mem_cons_of_mem _ hq)) t1 ρ1 n1 g1
  refine ⟨c::cs,t2,ρ2,n2,k1,Plan.le_trans g2 k2,Nat.le_trans g3 k3,g4.trans k4,by simp [k5],fun i q hq=>?_⟩
  cases i with
  | zero =>
   simp at hq
   subst hq
   exact ⟨c,rfl,g5.mono k4,g6.mono k2⟩
  | succ i=>exact k6 i q (by simpa using hq)
theorem en_tree {u:Tt} {x:Value} (h:TN K w u x):EnP K w u x:=by
  induction h with
  | v x h1=>exact fun t ρ nx h=>⟨.v x,t,ρ,nx,h,Plan.le_refl _,Nat.le_refl _,zle.refl _,.v x h1,.v x h1⟩
  | nil size=>exact fun t ρ nx h=>⟨.v (.slice none 0 0),t,ρ,nx,h,Plan.le_refl _,Nat.le_refl _,zle.refl _,.nil size,.v _ rfl⟩
  | sl size es A cap f hc hm hz hA hf ih =>
    intro t ρ nx h
    rcases hA with rfl | ⟨b,o,rfl,hK,hcell⟩
    · exact ⟨.em,t,ρ,nx,h,Plan.le_refl _,Nat.le_refl _,zle.refl _,.em size,.em A cap⟩
    · let l:List (Tt×Value):=(List.range (es.length * size)).map fun j=>(((es[j / size]?.getD [])[j % size]?).getD (.v undef),f (j / size) (j % size))
      have hll:l.length=es.length * size:=by simp [l]
      have hdiv:∀ j,j<es.length * size→j / size<es.length∧j % size<size:=fun j hj=>by
        have h0:0<size:=by
          rcases Nat.eq_zero_or_pos size with h0 | h0
          · subst h0;simp at hj
          · exact h0
        exact ⟨(Nat.div_lt_iff_lt_mul h0).2 hj,Nat.mod_lt _ h0⟩
      have hel:∀ j,j<es.length * size→∃ e u,es[j / size]? = some e∧e[j % size]? = some u∧l[j]? = some (u,f (j / size) (j % size)):=fun j hj=>by
        obtain ⟨h1,h2⟩:=hdiv j hj
        have e1:=List.getElem?_eq_getElem h1
        have h3:(es[j / size]).length=size:=hz _ (List.getElem_mem h1)
        have e2:(es[j / size])[j % size]? = some ((es[j / size])[j % size]'(by omega)):=List.getElem?_eq_getElem (by omega)
        refine ⟨_,_,e1,e2,?_⟩
        simp only [l]
        rw [List.getElem?_map,List.getElem?_range hj]
        simp [e1,e2]
      obtain ⟨cs, t1, ρ1, n1, g1, g2, g3, g4, g5, g6⟩ := en_list l (fun p hp => by
        obtain ⟨j,hj⟩:=List.mem_iff_getElem?.1 hp
        have hjl:j<es.length * size:=by rw [← hll];exact (List.getElem?_eq_some_iff.1 hj).1
        obtain ⟨e,u,e1,e2,e3⟩:=hel j hjl
        rw [e3] at hj;injection hj with hj;subst hj
        exact ih _ _ e u e1 e2) t ρ nx h
      rw [hll] at g5
      have hidx:∀ k i,k<es.length→i<size→k * size+i<es.length * size∧(k * size+i) / size=k∧(k * size+i) % size=i:=fun k i hk hi=>by
        have h0:0<size:=by omega
        refine ⟨?_,?_,?_⟩
        · calc k * size + i < k * size + size := by omega
            _=(k+1) * size:=by rw [Nat.add_mul,Nat.one_mul]
            _≤es.length * size:=Nat.mul_le_mul_right _ hk
        · rw [Nat.mul_comm,Nat.mul_add_div h0,Nat.div_eq_of_lt hi,Nat.add_zero]
        · rw [Nat.mul_comm,Nat.mul_add_mod,Nat.mod_eq_of_lt hi]
      let la:Pl:=⟨b,o,o+cap * size⟩
      have hn:=g1.free n1 (Nat.le_refl _)
      have hle:=(grown_upd hn la).le
      have hzle:zle t1.m (Tr.put (n1+1) t1 n1 (some (Blk.ro cs))).m:=.mk fun b' k hb=>by
        have:=g1.lt b' k hb
        show (Tr.put (n1+1) t1 n1 (some (Blk.ro cs))).get b'=some k
        rw [Tr.get_put _ _ _ _ _ (by omega),if_neg (by omega)]
        exact hb
      refine ⟨.sl n1 0 es.length size,_,_,_,g1.ro (cs:=cs) (la:=la) (.ro cs ?_ fun i c hi=>?_) hK,Plan.le_trans g2 hle,by omega,g4.trans hzle,.sl size es n1 cs (fun k i=>cs.getD (k * size+i) .any) ?_ (by omega) g5 hz (fun k i hk hi=>?_) (fun k i e u he hu=>?_),?_⟩
      · show o+cs.length≤o+cap * size
        rw [g5]
        exact Nat.add_le_add_left (Nat.mul_le_mul_right _ hc) _
      · have hi' : i < es.length * size := by rw [← g5]; exact (List.getElem?_eq_some_iff.1 hi).1
        obtain ⟨h1,h2⟩:=hdiv i hi'
        obtain ⟨e,u,e1,e2,e3⟩:=hel i hi'
        obtain ⟨c',k1,k2,k3⟩:=g6 i _ e3
        rw [k1] at hi;injection hi with hi;subst hi
        refine ⟨_,?_,k3.mono hle⟩
        have:=hcell (i / size) (i % size) h1 h2
        rw [Nat.div_add_mod'] at this
        exact this
      · show (Tr.put (n1+1) t1 n1 (some (Blk.ro cs))).get n1=some (.ro cs)
        rw [Tr.get_put _ _ _ _ _ (by omega),if_pos rfl]
      · have:=(hidx k i hk hi).1
        rw [List.getElem?_eq_getElem (by omega),List.getD_eq_getElem?_getD,List.getElem?_eq_getElem (by omega)]
        rfl
      · have hk:k<es.length:=(List.getElem?_eq_some_iff.1 he).1
        have hi:i<size:=by rw [← hz e (List.mem_of_getElem? he)];exact (List.getElem?_eq_some_iff.1 hu).1
        obtain ⟨h1,h2,h3⟩:=hidx k i hk hi
        obtain ⟨e',u',e1,e2,e3⟩:=hel _ h1
        rw [h2] at e1;rw [h3] at e2
        rw [he] at e1;injection e1 with e1;subst e1
        rw [hu] at e2;injection e2 with e2;subst e2
        obtain ⟨c',k1,k2,k3⟩:=g6 _ _ e3
        have:cs.getD (k * size+i) C.any=c':=by rw [List.getD_eq_getElem?_getD,k1];rfl
        simp only [this]
        exact k2.mono hzle
      · have := CRep.sl (ρ := upd ρ1 n1 la) n1 0 es.length size cap la (upd_same _ _ _) (by show o + 0 + cap * size ≤ o + cap * size; omega) hc hm
        simpa [la] using this
end
def TC (z:Mem) (a:TT) (c:C):Prop:=∃ u,TOk a u∧TZ z u c
inductive TCs (z:Mem):List TT→List C→Prop where
 | nil:TCs z [] []
 | cons {a:TT} {c:C} {aq:List TT} {cs:List C} (h:TC z a c) (t:TCs z aq cs):TCs z (a::aq) (c::cs)
theorem tcs_of {z:Mem}:∀ {aq:List TT} {cs:List C},cs.length=aq.length→(∀ (i:Nat) (a:TT) (c:C),aq[i]? = some a→cs[i]? = some c→TC z a c)→TCs z aq cs
 | [],[],_,_=>.nil
 | a::aq,c::cs,hl,h=>.cons (h 0 a c rfl rfl) (tcs_of (by simpa using hl) fun i a' c' h1 h2=>h (i+1) a' c' (by simpa using h1) (by simpa using h2))
 | [],_::_,hl,_=>by simp at hl
 | _::_,[],hl,_=>by simp at hl
theorem TC.b {z:Mem} {c:C} (h:TC z .b c):∃ x:Bool,c=.v (.bool x):=by
 obtain ⟨u,h1,h2⟩:=h
 cases h1;cases h2;exact ⟨_,rfl⟩
theorem TC.s {z:Mem} {c:C} (h:TC z .s c):∃ x:ByteArray,c=.v (.string x):=by
 obtain ⟨u,h1,h2⟩:=h
 cases h1;cases h2;exact ⟨_,rfl⟩
theorem TC.i {z:Mem} {k:IntKind} {c:C} (h:TC z (.i k) c):∃ n:Int,c=.v (.int k n):=by
 obtain ⟨u,h1,h2⟩:=h
 cases h1;cases h2;exact ⟨_,rfl⟩
theorem TC.sl {z:Mem} {size:Nat} {sh:List TT} {c:C} {α:Type} {R:RT α} (hs:sh.length=size) (hR:∀ cs,TCs z sh cs→∃ a,R z cs a) (h:TC z (.sl size sh) c):∃ l:List α,CZ size R z c l:=by
  obtain ⟨u,h1,h2⟩:=h
  cases h1 with
  | sl _ _ es hm hl hok =>
    cases h2 with
    | nil=>exact ⟨[],.nil⟩
    | em=>exact ⟨[],.em⟩
    | sl _ _ b cs g hb hm' hlen he hc hf =>
      have key:∀ k:Fin es.length,∃ a:α,R z ((cs.drop (0+k.1 * size)).take size) a:=fun ⟨k,hk⟩=>by
        have hkl:k * size+size≤es.length * size:=by
          calc k * size + size = (k + 1) * size := by rw [Nat.add_mul, Nat.one_mul]
            _≤es.length * size:=Nat.mul_le_mul_right _ hk
        refine hR ((cs.drop (0+k * size)).take size) (tcs_of (by rw [List.length_take,List.length_drop];omega) fun i a' c' h1 h2=>?_)
        have hi:i<size:=by rw [← hs];exact (List.getElem?_eq_some_iff.1 h1).1
        rw [List.getElem?_take,if_pos hi,List.getElem?_drop,Nat.zero_add,hc k i hk hi] at h2
        injection h2 with h2;subst h2
        have e1:=List.getElem?_eq_getElem hk
        have h3:(es[k]).length=size:=he _ (List.getElem_mem hk)
        have e2:(es[k])[i]? = some ((es[k])[i]'(by omega)):=List.getElem?_eq_getElem (by omega)
        exact ⟨_,hok _ i a' _ (List.getElem_mem hk) h1 e2,hf k i _ _ e1 e2⟩
      refine ⟨List.ofFn fun k=>Classical.choose (key k),.sl b 0 es.length _ cs _ (by simp) (by simp [maxLen] at hm';omega) hb rfl (by omega) fun i a hi=>?_⟩
      rw [List.getElem?_ofFn] at hi
      split at hi
      · rename_i hil
        injection hi with hi;subst hi
        exact Classical.choose_spec (key ⟨i,hil⟩)
      · cases hi
theorem nil_m {b:Nat} {k:Blk} (h:(Tr.nil:Tr Blk).m b k):False:=by
 simp only [Tr.m,Tr.get_nil] at h
 cases h
theorem en_nil (W:World):En (fun b=>b<W.heap.size) W .nil (fun _=>none) 0:=
 ⟨⟨fun b k h=>(nil_m h).elim,fun b k la h=>(nil_m h).elim,fun b b' k k' la la' h=>(nil_m h).elim,fun b h=>h,⟨rfl,rfl,rfl,Nat.le_refl _,fun _ _=>rfl⟩⟩,fun _ _=>rfl,fun b k h=>(nil_m h).elim⟩
theorem en_trees {K:Nat→Prop} {W:World}:∀ {sh:List TT} {us:List Tt} {xs:List Value},(∀ b,b<W.heap.size→K b)→All3 (TRd W) sh us xs→∀ t ρ nx,En K W t ρ nx→(∀ b,K b↔b<W.heap.size) →
  ∃ cs:List C,EnQ K W t ρ nx fun t' ρ'=>cs.length=xs.length∧TCs t'.m sh cs∧∀ (i:Nat) (c:C),cs[i]? = some c→∃ x,xs[i]? = some x∧CRep ρ' c x
 | [],[],[],_,_,t,ρ,nx,h,_=>⟨[],t,ρ,nx,h,Plan.le_refl _,Nat.le_refl _,zle.refl _,rfl,.nil,fun i c hc=>by simp at hc⟩
 | a::aq,u::us,x::xs,hK,h3,t,ρ,nx,h,hKK=>by
  obtain ⟨⟨ha,hu⟩,h3⟩:=h3
  have e:(fun b=>b<W.heap.size)=K:=funext fun b=>propext (hKK b).symm
  rw [e] at hu
  obtain ⟨c,t1,ρ1,n1,g1,g2,g3,g4,g5,g6⟩:=en_tree hu t ρ nx h
  obtain ⟨cs,t2,ρ2,n2,k1,k2,k3,k4,k5,k6,k7⟩:=en_trees hK h3 t1 ρ1 n1 g1 hKK
  refine ⟨c::cs,t2,ρ2,n2,k1,Plan.le_trans g2 k2,Nat.le_trans g3 k3,g4.trans k4,by simp [k5],.cons ⟨u,ha,g5.mono k4⟩ k6,fun i c' hc=>?_⟩
  cases i with
  | zero=>simp at hc;subst hc;exact ⟨x,rfl,g6.mono k2⟩
  | succ i=>exact k7 i c' (by simpa using hc)
 | [],_::_,_,_,h,_,_,_,_,_=>by simp [All3] at h
 | [],[],_::_,_,h,_,_,_,_,_=>by simp [All3] at h
 | _::_,[],_,_,h,_,_,_,_,_=>by simp [All3] at h
 | _::_,_::_,[],_,h,_,_,_,_,_=>by simp [All3] at h
theorem law_of {P:Program} {f:Nat} {call:Call'} (hc:CallSnd P call) (hcal:Go.Eng.callable P f=true) {W:World} {t:Tr Blk} {ρ:Plan} {nx:Nat} (hE:En (fun b=>b<W.heap.size) W t ρ nx) {args:List AV}
  (hF:FC call f args t.m fun v _=>v=.c (.v (.bool true))) {vs:Array Value} (hs:vs.size=args.length) (hr:∀ k v,args[k]? = some v→AVRep (CRep ρ) v (vs.getD k undef)) :
  Calls P f vs W fun e W'=>e=.returned (.bool true)∧Below W.heap.size W W':=by
 obtain ⟨v,mem',nx',z',H',h1,h2,h3,h4,h5,h6,h7,h8,h9⟩:=hF t nx ⟨fun b k hb=>⟨hb,hE.lt b k hb,by simp [fps]⟩,fun a ha=>by simp at ha,fun b hb=>by simp [fps] at hb,by simp [fps]⟩
 subst h9
 refine (((hc _ _ _ _ _ _ _ h1).run (fun b=>b<W.heap.size) W ρ W vs hE.sat (fun b hb _=>hE.free b hb) hs hr).calls hcal).mono fun e W' ⟨x,ρ',he,_,hm,hx⟩=>?_
 subst he
 refine ⟨?_,hm.fr.os,hm.fr.tape,hm.fr.output,hm.fr.size,hm.fr.block⟩
 cases hx with
 | c _ _ hx=>cases hx with
  | v _ _=>rfl
end Go.CE

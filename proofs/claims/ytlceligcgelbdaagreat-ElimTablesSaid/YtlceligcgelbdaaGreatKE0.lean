/- Arguments as blocks that are read alone. -/
import Derived.ProofKit
import Derived.WalkKit
import Derived.Orders
import Derived.Test.YtlceligcgelbdaaGreatKF1
set_option linter.unusedVariables false
set_option linter.unusedSimpArgs false
namespace Go.CE
open Go.RowKit
open Go.ChangeShapes Go.WideShapes
inductive Tt where
 | v (x:Value)
 | sl (size:Nat) (es:List (List Tt))
inductive TT where
 | b
 | i (k:IntKind)
 | s
 | sl (size:Nat) (es:List TT)
def TT.fields (P:Program) (g:TypeId→Option (List TT)):Nat→List Field→Option (List TT)
 | _,[]=>some []
 | off,f::r=>match g f.type with
  | some sh=>if f.offset=off∧sh.length=P.cellsOf f.type then (TT.fields P g (off+sh.length) r).map (sh++·) else none
  | none=>none
def TT.of (P:Program):Nat→TypeId→Option (List TT)
 | 0,_=>none
 | n+1,t=>match P.underlying t with
  | some .bool=>some [.b]
  | some (.int k)=>some [.i k]
  | some .string=>some [.s]
  | some (.slice e)=>match TT.of P n e with
   | some sh=>if 0<P.cellsOf e∧sh.length=P.cellsOf e then some [.sl (P.cellsOf e) sh] else none
   | none=>none
  | some (.struct fs)=>match TT.fields P (TT.of P n) 0 fs.toList with
   | some sh=>if sh.length=P.cellsOf t then some sh else none
   | none=>none
  | _=>none
inductive TOk:TT→Tt→Prop where
 | b (x:Bool):TOk .b (.v (.bool x))
 | i (k:IntKind) (n:Int) (h:(Lit.int k n).wf=true):TOk (.i k) (.v (.int k n))
 | s (x:ByteArray) (h:x.size≤maxLen):TOk .s (.v (.string x))
 | sl (size:Nat) (sh:List TT) (es:List (List Tt)) (hm:es.length≤maxLen) (hl:∀ e,e∈es→e.length=sh.length)
   (h:∀ (e:List Tt) (i:Nat) (a:TT) (u:Tt),e∈es→sh[i]? = some a→e[i]? = some u→TOk a u):TOk (.sl size sh) (.sl size es)
inductive TN (S:Nat→Prop) (w:World):Tt→Value→Prop where
 | v (x:Value) (h1:x.oneCell'=true):TN S w (.v x) x
 | nil (size:Nat):TN S w (.sl size []) (.slice none 0 0)
 | sl (size:Nat) (es:List (List Tt)) (A:Addr) (cap:Nat) (f:Nat→Nat→Value) (hc:es.length≤cap) (hm:cap≤maxLen) (hz:∀ e,e∈es→e.length=size)
   (hA:es=[]∨∃ b o,A=⟨b,o,none⟩∧S b∧∀ k i,k<es.length→i<size→w.cell? ⟨b,o+(k * size+i),none⟩=some (f k i))
   (hf:∀ (k i:Nat) (e:List Tt) (t:Tt),es[k]? = some e→e[i]? = some t→TN S w t (f k i)):TN S w (.sl size es) (.slice (some A) es.length cap)
def Ey (R:TT→Tt→Value→Prop):List TT→List Tt→List Value→Prop
 | [],[],[]=>True
 | a::aq,b::bs,c::cs=>R a b c∧Ey R aq bs cs
 | _,_,_=>False
theorem Ey.append {R:TT→Tt→Value→Prop}:∀ {aq:List TT} {bs:List Tt} {cs:List Value} {aq':List TT} {bs':List Tt} {cs':List Value},Ey R aq bs cs→Ey R aq' bs' cs'→Ey R (aq++aq') (bs++bs') (cs++cs')
 | [],[],[],_,_,_,_,h=>h
 | a::aq,b::bs,c::cs,_,_,_,h,h'=>⟨h.1,Ey.append h.2 h'⟩
 | [],_::_,_,_,_,_,h,_=>by simp [Ey] at h
 | [],[],_::_,_,_,_,h,_=>by simp [Ey] at h
 | _::_,[],_,_,_,_,h,_=>by simp [Ey] at h
 | _::_,_::_,[],_,_,_,h,_=>by simp [Ey] at h
theorem Ey.len {R:TT→Tt→Value→Prop}:∀ {aq:List TT} {bs:List Tt} {cs:List Value},Ey R aq bs cs→bs.length=aq.length∧cs.length=aq.length
 | [],[],[],_=>⟨rfl,rfl⟩
 | a::aq,b::bs,c::cs,h=>by have:=Ey.len h.2;simp [this.1,this.2]
 | [],_::_,_,h=>by simp [Ey] at h
 | [],[],_::_,h=>by simp [Ey] at h
 | _::_,[],_,h=>by simp [Ey] at h
 | _::_,_::_,[],h=>by simp [Ey] at h
theorem Ey.get {R:TT→Tt→Value→Prop}:∀ {aq:List TT} {bs:List Tt} {cs:List Value},Ey R aq bs cs→∀ {i:Nat} {a:TT} {b:Tt},aq[i]? = some a→bs[i]? = some b→∃ c,cs[i]? = some c∧R a b c
 | [],[],[],_,i,a,b,h1,_=>by simp at h1
 | a::aq,b::bs,c::cs,h,i,a',b',h1,h2=>by
  cases i with
  | zero =>
   simp at h1 h2
   subst h1;subst h2
   exact ⟨c,by simp,h.1⟩
  | succ i =>
   simp at h1 h2
   obtain ⟨c',h3,h4⟩:=Ey.get h.2 h1 h2
   exact ⟨c',by simpa using h3,h4⟩
 | [],_::_,_,h,_,_,_,_,_=>by simp [Ey] at h
 | [],[],_::_,h,_,_,_,_,_=>by simp [Ey] at h
 | _::_,[],_,h,_,_,_,_,_=>by simp [Ey] at h
 | _::_,_::_,[],h,_,_,_,_,_=>by simp [Ey] at h
section
variable {H:Type} {enc:TypeId×Value→H} {P:Program} {w:World} {base:Nat} {sp:Nat→Bool} {held:Bool}
theorem cells?_get {a:Addr} {n:Nat} {cs:List Value} (h:w.cells? base a n=some cs):cs.length=n∧∀ i,i<n→w.cell? (a.add i)=cs[i]?:=by
  unfold World.cells? at h
  split at h
  · refine ⟨by simpa using mapM_some_length h, fun i hi => ?_⟩
    exact mapM_some_get h i i (by simp [hi])
  · cases h
theorem aZo {a:Addr} {v:Value} (h:w.cell? a=some v):a.spot=none∧a.block<w.heap.size:=by
 unfold World.cell? at h
 split at h
 ·rename_i c x y hb
  split at h
  ·cases h
  rename_i hs
  refine ⟨by simpa using hs,?_⟩
  exact (Array.getElem?_eq_some_iff.1 hb).1
 cases h
abbrev TRd (w:World):TT→Tt→Value→Prop:=fun a u v=>TOk a u∧TN (fun b=>b<w.heap.size) w u v
theorem aL7 {g:TypeId→Option (List TT)} {fuel:Nat}
  (hg:∀ {t:TypeId} {sh:List TT} {cs:List Value} {x:DataW H×List MemPlace},g t=some sh→DataW.trod enc P w base sp held fuel t cs=some x→∃ us,Ey (TRd w) sh us cs) :
  ∀ (fs:List Field) (off:Nat) (sh:List TT) (cs:List Value),TT.fields P g off fs=some sh→off+sh.length=cs.length →
   (∀ f,f∈fs→∃ x,DataW.trod enc P w base sp held fuel f.type ((cs.drop f.offset).take (P.cellsOf f.type))=some x)→∃ us,Ey (TRd w) sh us (cs.drop off)
 | [],off,sh,cs,h,hl,_=>by
  simp [TT.fields] at h
  subst h
  refine ⟨[],?_⟩
  rw [List.drop_eq_nil_of_le (by simp at hl;omega)]
  trivial
 | f::r,off,sh,cs,h,hl,hx=>by
  unfold TT.fields at h
  cases hgf:g f.type with
  | none=>rw [hgf] at h;cases h
  | some s1 =>
   rw [hgf] at h
   simp only at h
   split at h
   case isFalse=>cases h
   rename_i hc
   obtain ⟨hoff,hsz⟩:=hc
   cases hr:TT.fields P g (off+s1.length) r with
   | none=>rw [hr] at h;cases h
   | some s2 =>
    rw [hr] at h
    simp at h
    subst h
    rw [List.length_append] at hl
    obtain ⟨us2,h2⟩:=aL7 hg r (off+s1.length) s2 cs hr (by omega) fun f hf=>hx f (by simp [hf])
    obtain ⟨x,hxx⟩:=hx f (by simp)
    obtain ⟨us1,h1⟩:=hg hgf hxx
    refine ⟨us1++us2,?_⟩
    have e:cs.drop off=(cs.drop f.offset).take (P.cellsOf f.type)++cs.drop (off+s1.length):=by
     rw [hoff,← hsz,← List.drop_drop,List.take_append_drop]
    rw [e]
    exact h1.append h2
theorem Yu:∀ (n fuel:Nat) {t:TypeId} {sh:List TT} {cs:List Value} {x:DataW H×List MemPlace},TT.of P n t=some sh→DataW.trod enc P w base sp held fuel t cs=some x→∃ us,Ey (TRd w) sh us cs
 | 0,_,_,_,_,_,h,_=>by simp [TT.of] at h
 | n+1,fuel,t,sh,cs,x,h,hx=>by
  unfold TT.of at h
  cases hu:P.underlying t with
  | none=>rw [hu] at h;cases h
  | some d =>
   rw [hu] at h
   cases fuel with
   | zero=>simp [DataW.trod] at hx
   | succ m =>
    cases d<;>simp only [reduceCtorEq] at h
    case bool =>
     injection h with h;subst h
     unfold DataW.trod at hx
     rw [hu] at hx
     split at hx<;>simp_all
     rename_i b
     exact ⟨[.v (.bool b)],⟨.b b,.v _ rfl⟩,trivial⟩
    case int k =>
     injection h with h;subst h
     unfold DataW.trod at hx
     rw [hu] at hx
     split at hx<;>simp_all
     obtain ⟨⟨h1,h2⟩,_⟩:=hx
     exact ⟨[.v (.int _ _)],⟨.i _ _ h2,.v _ rfl⟩,trivial⟩
    case string =>
     injection h with h;subst h
     unfold DataW.trod at hx
     rw [hu] at hx
     split at hx<;>simp_all
     exact ⟨[.v (.string _)],⟨.s _ hx.1,.v _ rfl⟩,trivial⟩
    case slice e =>
     cases he:TT.of P n e with
     | none=>rw [he] at h;cases h
     | some sh1 =>
      rw [he] at h
      simp only at h
      split at h
      case isFalse=>cases h
      rename_i hc
      obtain ⟨aLt,Ff⟩:=hc
      injection h with h;subst h
      rcases DataW.trod_slice hu hx with ⟨hcs,_⟩ | ⟨a,len,cap,elems,rest,m',hm',hcs,_,_,hl,hcap,hel,hread,_⟩
      ·subst hcs
       refine ⟨[.sl (P.cellsOf e) []],⟨.sl _ _ _ (by simp) (by simp) (by simp),?_⟩,trivial⟩
       exact .nil _
      subst hcs
      have key:∀ k,∃ (cs':List Value) (us:List Tt),k<len→w.cells? base (a.add (k * P.cellsOf e)) (P.cellsOf e)=some cs'∧Ey (TRd w) sh1 us cs':=by
       intro k
       by_cases hk:k<len
       ·have h1:=hread k hk
        have h2:∃ y,elems[k]? = some y:=⟨_,List.getElem?_eq_getElem (by omega)⟩
        obtain ⟨y,hy⟩:=h2
        rw [hy] at h1
        simp only [Option.bind_eq_some_iff] at h1
        obtain ⟨c1,hc1,hy1⟩:=h1
        obtain ⟨us,hus⟩:=Yu n m' he hy1
        exact ⟨c1,us,fun _=>⟨hc1,hus⟩⟩
       exact ⟨[],[],fun h=>absurd h hk⟩
      let ccs:Nat→List Value:=fun k=>Classical.choose (key k)
      let uss:Nat→List Tt:=fun k=>Classical.choose (Classical.choose_spec (key k))
      have hspec:∀ k,k<len→w.cells? base (a.add (k * P.cellsOf e)) (P.cellsOf e)=some (ccs k)∧Ey (TRd w) sh1 (uss k) (ccs k):=fun k=>Classical.choose_spec (Classical.choose_spec (key k))
      have hcell:∀ k i,k<len→i<P.cellsOf e→w.cell? ((a.add (k * P.cellsOf e)).add i)=some ((ccs k).getD i undef):=by
       intro k i hk hi
       obtain ⟨h1,h2⟩:=cells?_get (hspec k hk).1
       rw [h2 i hi,List.getD_eq_getElem?_getD,List.getElem?_eq_getElem (by omega)];rfl
      have hes:((List.range len).map uss).length=len:=by simp
      have hmem:∀ e',e'∈(List.range len).map uss→∃ k,k<len∧e'=uss k:=by
       intro e' he'
       obtain ⟨k,hk,rfl⟩:=List.mem_map.1 he'
       exact ⟨k,by simpa using hk,rfl⟩
      have hspot:len=0∨a.spot=none∧a.block<w.heap.size:=by
       by_cases h0:len=0
       ·exact .inl h0
       right
       have:=hcell 0 0 (by omega) aLt
       have e0:(a.add (0 * P.cellsOf e)).add 0=a:=by simp [Addr.add]
       rw [e0] at this
       exact aZo this
      have hT:TN (fun b=>b<w.heap.size) w (.sl (P.cellsOf e) ((List.range len).map uss)) (.slice (some a) ((List.range len).map uss).length cap):=by
       refine .sl _ _ a cap (fun k i=>(ccs k).getD i undef) (by rw [hes];exact hl) hcap ?_ ?_ ?_
       ·intro e' he'
        obtain ⟨k,hk,rfl⟩:=hmem e' he'
        rw [(hspec k hk).2.len.1,Ff]
       ·rcases hspot with h0 | ⟨hs,hb⟩
        ·left;subst h0;rfl
        right
        refine ⟨a.block,a.off,by cases a;simp_all,hb,fun k i hk hi=>?_⟩
        rw [hes] at hk
        rw [← hcell k i hk hi]
        congr 1
        unfold Addr.add
        cases a
        simp only at hs
        subst hs
        by_cases e1:k * P.cellsOf e=0<;>by_cases e2:i=0<;>simp [e1,e2,Nat.add_assoc]
       intro k i e' u hk hi
       have hkl:k<len:=by
        have:=(List.getElem?_eq_some_iff.1 hk).1
        simpa using this
       rw [List.getElem?_map,List.getElem?_range hkl] at hk
       injection hk with hk
       subst hk
       have hA:=(hspec k hkl).2
       have hil:i<sh1.length:=by rw [← hA.len.1];exact (List.getElem?_eq_some_iff.1 hi).1
       obtain ⟨c,hc1,hc2⟩:=hA.get (List.getElem?_eq_getElem hil) hi
       have:(ccs k).getD i undef=c:=by rw [List.getD_eq_getElem?_getD,hc1];rfl
       rw [this]
       exact hc2.2
      rw [hes] at hT
      refine ⟨[.sl (P.cellsOf e) ((List.range len).map uss)],⟨.sl _ _ _ (by rw [hes];omega) ?_ ?_,hT⟩,trivial⟩
      ·intro e' he'
       obtain ⟨k,hk,rfl⟩:=hmem e' he'
       exact (hspec k hk).2.len.1
      intro e' i a' u he' h1 h2
      obtain ⟨k,hk,rfl⟩:=hmem e' he'
      obtain ⟨c,hc1,hc2⟩:=(hspec k hk).2.get h1 h2
      exact hc2.1
    case struct fs =>
     cases hf:TT.fields P (TT.of P n) 0 fs.toList with
     | none=>rw [hf] at h;cases h
     | some s1 =>
      rw [hf] at h
      simp only at h
      split at h
      case isFalse=>cases h
      rename_i hc
      injection h with h;subst h
      obtain ⟨xs,m',hm',_,hcl,hxl,hget⟩:=DataW.trod_struct hu hx
      have:=aL7 (enc:=enc) (P:=P) (w:=w) (base:=base) (sp:=sp) (held:=held) (g:=TT.of P n) (fuel:=m') (fun h1 h2=>Yu n m' h1 h2) fs.toList 0 s1 cs hf (by omega) fun f hfm=>by
       obtain ⟨i,hi,he⟩:=List.getElem_of_mem hfm
       have h1:=hget i f (by rw [← he];simp)
       rw [List.getElem?_eq_getElem (by rw [hxl];simpa using hi)] at h1
       exact ⟨_,h1⟩
      simpa using this
end
inductive TZ (z:dA):Tt→C→Prop where
 | v (x:Value) (h:x.oneCell'=true):TZ z (.v x) (.v x)
 | nil (size:Nat):TZ z (.sl size []) (.v (.slice none 0 0))
 | em (size:Nat):TZ z (.sl size []) .em
 | sl (size:Nat) (es:List (List Tt)) (b:Nat) (cs:List C) (g:Nat→Nat→C) (hb:z b (.ro cs)) (hm:es.length≤maxLen) (hl:cs.length=es.length * size) (he:∀ e,e∈es→e.length=size)
   (hc:∀ k i,k<es.length→i<size→cs[k * size+i]? = some (g k i)) (hf:∀ (k i:Nat) (e:List Tt) (u:Tt),es[k]? = some e→e[i]? = some u→TZ z u (g k i)):TZ z (.sl size es) (.sl b 0 es.length size)
theorem TZ.mono {z z':dA} (hz:zle z z') {u:Tt} {c:C} (h:TZ z u c):TZ z' u c:=by
 induction h with
 | v x h=>exact .v x h
 | nil s=>exact .nil s
 | em s=>exact .em s
 | sl size es b cs g hb hm hl he hc hf ih=>exact .sl size es b cs g (hz _ _ hb) hm hl he hc ih
structure En (K:Nat→Prop) (w:World) (t:Tr mU) (ρ:nV) (nx:Nat):Prop where
 sat:rR K w ρ t.m w
 free:∀ b,nx≤b→ρ b=none
 lt:∀ b k,t.get b=some k→b<nx
abbrev EnQ (K:Nat→Prop) (w:World) (t:Tr mU) (ρ:nV) (nx:Nat) (Q:Tr mU→nV→Prop):Prop:=∃ t' ρ' nx',En K w t' ρ' nx'∧ρ.le ρ'∧nx≤nx'∧zle t.m t'.m∧Q t' ρ'
section
variable {K:Nat→Prop} {w:World}
theorem rR.ro {ρ:nV} {m m':dA} {nx:Nat} (h:rR K w ρ m w) (hn:ρ nx=none) {cs:List C} {la:Pl} (hk:yM (upd ρ nx la) w la (.ro cs)) (hK:K la.b)
  (hm':∀ b k',m' b k'→(b=nx∧k'=.ro cs)∨(b≠nx∧m b k')):rR K w (upd ρ nx la) m' w:=by
 have hle:=(Ak hn la).le
 refine ⟨fun b k hb=>?_,fun b k l hb hl=>?_,fun b b' k1 k2 l l' h1 h2 h3 h4 r1 r2 h5=>?_,h.kept,h.fr⟩
 ·rcases hm' b k hb with ⟨rfl,rfl⟩ | ⟨hne,hm⟩
  ·exact ⟨la,pW _ _ _,hk⟩
  obtain ⟨l,h1,h2⟩:=h.blk b k hm
  exact ⟨l,hle _ _ h1,h2.mono hle rfl⟩
 ·rcases hm' b k hb with ⟨rfl,rfl⟩ | ⟨hne,hm⟩
  ·rw [pW] at hl;injection hl with hl;subst hl
   exact ⟨fun hr=>(by cases hr),fun _=>hK,h.kept _ hK⟩
  rw [uE _ _ _ _ hne] at hl
  exact h.own b k l hm hl
 rcases hm' b k1 h1 with ⟨rfl,rfl⟩ | ⟨hne,hm⟩
 ·cases r1
 rcases hm' b' k2 h2 with ⟨rfl,rfl⟩ | ⟨hne',hm2⟩
 ·cases r2
 rw [uE _ _ _ _ hne] at h3
 rw [uE _ _ _ _ hne'] at h4
 exact h.inj b b' k1 k2 l l' hm hm2 h3 h4 r1 r2 h5
theorem En.ro {t:Tr mU} {ρ:nV} {nx:Nat} (h:En K w t ρ nx) {cs:List C} {la:Pl} (hk:yM (upd ρ nx la) w la (.ro cs)) (hK:K la.b):En K w (Tr.put (nx+1) t nx (some (.ro cs))) (upd ρ nx la) (nx+1):=by
 have hg:∀ b,(Tr.put (nx+1) t nx (some (mU.ro cs))).get b=if nx=b then some (.ro cs) else t.get b:=fun b=>by rw [Tr.get_put _ _ _ _ _ (by omega)]
 refine ⟨h.sat.ro (h.free nx (Nat.le_refl _)) hk hK fun b k' hb=>?_,fun b hb=>?_,fun b k hb=>?_⟩
 ·have hb:(Tr.put (nx+1) t nx (some (mU.ro cs))).get b=some k':=hb
  rw [hg] at hb
  split at hb
  ·rename_i e;injection hb with hb;exact .inl ⟨e.symm,hb.symm⟩
  rename_i e;exact .inr ⟨fun e'=>e e'.symm,hb⟩
 ·rw [uE _ _ _ _ (by omega)];exact h.free b (by omega)
 rw [hg] at hb
 split at hb
 ·omega
 have:=h.lt b k hb;omega
def EnP (K:Nat→Prop) (w:World) (u:Tt) (x:Value):Prop:=∀ t ρ nx,En K w t ρ nx→∃ c,EnQ K w t ρ nx fun t' ρ'=>TZ t'.m u c∧kO ρ' c x
theorem bJa:∀ (l:List (Tt×Value)),(∀ p,p∈l→EnP K w p.1 p.2)→∀ t ρ nx,En K w t ρ nx→∃ cs:List C,EnQ K w t ρ nx fun t' ρ'=>cs.length=l.length∧∀ (i:Nat) (p:Tt×Value),l[i]? = some p→∃ c,cs[i]? = some c∧TZ t'.m p.1 c∧kO ρ' c p.2:=by
 intro l
 induction l with
 | nil=>intro _ t ρ nx h;exact ⟨[],t,ρ,nx,h,nV.le_refl _,Nat.le_refl _,zle.refl _,rfl,fun i p hp=>by simp at hp⟩
 | cons p l ih =>
  intro hp t ρ nx h
  obtain ⟨c,t1,ρ1,n1,g1,g2,g3,g4,g5,g6⟩:=hp p (List.mem_cons_self ..) t ρ nx h
  obtain ⟨cs,t2,ρ2,n2,k1,k2,k3,k4,k5,k6⟩:=ih (fun q hq=>hp q (List.mem_cons_of_mem _ hq)) t1 ρ1 n1 g1
  refine ⟨c::cs,t2,ρ2,n2,k1,nV.le_trans g2 k2,Nat.le_trans g3 k3,g4.trans k4,by simp [k5],fun i q hq=>?_⟩
  cases i with
  | zero =>
   simp at hq
   subst hq
   exact ⟨c,rfl,g5.mono k4,g6.mono k2⟩
  | succ i=>exact k6 i q (by simpa using hq)
theorem bJq {u:Tt} {x:Value} (h:TN K w u x):EnP K w u x:=by
  induction h with
  | v x h1=>exact fun t ρ nx h=>⟨.v x,t,ρ,nx,h,nV.le_refl _,Nat.le_refl _,zle.refl _,.v x h1,.v x h1⟩
  | nil size=>exact fun t ρ nx h=>⟨.v (.slice none 0 0),t,ρ,nx,h,nV.le_refl _,Nat.le_refl _,zle.refl _,.nil size,.v _ rfl⟩
  | sl size es A cap f hc hm hz hA hf ih =>
    intro t ρ nx h
    rcases hA with rfl | ⟨b,o,rfl,hK,hcell⟩
    · exact ⟨.em,t,ρ,nx,h,nV.le_refl _,Nat.le_refl _,zle.refl _,.em size,.em A cap⟩
    · let l:List (Tt×Value):=(List.range (es.length * size)).map fun j=>(((es[j / size]?.getD [])[j % size]?).getD (.v undef),f (j / size) (j % size))
      have hll:l.length=es.length * size:=by simp [l]
      have hdiv:∀ j,j<es.length * size→j / size<es.length∧j % size<size:=fun j hj=>by
        have h0:0<size:=by
          rcases Nat.eq_zero_or_pos size with h0 | h0
          · subst h0;simp at hj
          · exact h0
        exact ⟨(Nat.div_lt_iff_lt_mul h0).2 hj,Nat.mod_lt _ h0⟩
      have hel:∀ j,j<es.length * size→∃ e u,es[j / size]? = some e∧e[j % size]? = some u∧l[j]? = some (u,f (j / size) (j % size)):=fun j hj=>by
        obtain ⟨h1,h2⟩:=hdiv j hj
        have e1:=List.getElem?_eq_getElem h1
        have h3:(es[j / size]).length=size:=hz _ (List.getElem_mem h1)
        have e2:(es[j / size])[j % size]? = some ((es[j / size])[j % size]'(by omega)):=List.getElem?_eq_getElem (by omega)
        refine ⟨_,_,e1,e2,?_⟩
        simp only [l]
        rw [List.getElem?_map,List.getElem?_range hj]
        simp [e1,e2]
      obtain ⟨cs, t1, ρ1, n1, g1, g2, g3, g4, g5, g6⟩ := bJa l (fun p hp => by
        obtain ⟨j,hj⟩:=List.mem_iff_getElem?.1 hp
        have hjl:j<es.length * size:=by rw [← hll];exact (List.getElem?_eq_some_iff.1 hj).1
        obtain ⟨e,u,e1,e2,e3⟩:=hel j hjl
        rw [e3] at hj;injection hj with hj;subst hj
        exact ih _ _ e u e1 e2) t ρ nx h
      rw [hll] at g5
      have hidx:∀ k i,k<es.length→i<size→k * size+i<es.length * size∧(k * size+i) / size=k∧(k * size+i) % size=i:=fun k i hk hi=>by
        have h0:0<size:=by omega
        refine ⟨?_,?_,?_⟩
        · calc k * size + i < k * size + size := by omega
            _=(k+1) * size:=by rw [Nat.add_mul,Nat.one_mul]
            _≤es.length * size:=Nat.mul_le_mul_right _ hk
        · rw [Nat.mul_comm,Nat.mul_add_div h0,Nat.div_eq_of_lt hi,Nat.add_zero]
        · rw [Nat.mul_comm,Nat.mul_add_mod,Nat.mod_eq_of_lt hi]
      let la:Pl:=⟨b,o,o+cap * size⟩
      have hn:=g1.free n1 (Nat.le_refl _)
      have hle:=(Ak hn la).le
      have hzle:zle t1.m (Tr.put (n1+1) t1 n1 (some (mU.ro cs))).m:=.mk fun b' k hb=>by
        have:=g1.lt b' k hb
        show (Tr.put (n1+1) t1 n1 (some (mU.ro cs))).get b'=some k
        rw [Tr.get_put _ _ _ _ _ (by omega),if_neg (by omega)]
        exact hb
      refine ⟨.sl n1 0 es.length size,_,_,_,g1.ro (cs:=cs) (la:=la) (.ro cs ?_ fun i c hi=>?_) hK,nV.le_trans g2 hle,by omega,g4.trans hzle,.sl size es n1 cs (fun k i=>cs.getD (k * size+i) .any) ?_ (by omega) g5 hz (fun k i hk hi=>?_) (fun k i e u he hu=>?_),?_⟩
      · show o+cs.length≤o+cap * size
        rw [g5]
        exact Nat.add_le_add_left (Nat.mul_le_mul_right _ hc) _
      · have hi' : i < es.length * size := by rw [← g5]; exact (List.getElem?_eq_some_iff.1 hi).1
        obtain ⟨h1,h2⟩:=hdiv i hi'
        obtain ⟨e,u,e1,e2,e3⟩:=hel i hi'
        obtain ⟨c',k1,k2,k3⟩:=g6 i _ e3
        rw [k1] at hi;injection hi with hi;subst hi
        refine ⟨_,?_,k3.mono hle⟩
        have:=hcell (i / size) (i % size) h1 h2
        rw [Nat.div_add_mod'] at this
        exact this
      · show (Tr.put (n1+1) t1 n1 (some (mU.ro cs))).get n1=some (.ro cs)
        rw [Tr.get_put _ _ _ _ _ (by omega),if_pos rfl]
      · have:=(hidx k i hk hi).1
        rw [List.getElem?_eq_getElem (by omega),List.getD_eq_getElem?_getD,List.getElem?_eq_getElem (by omega)]
        rfl
      · have hk:k<es.length:=(List.getElem?_eq_some_iff.1 he).1
        have hi:i<size:=by rw [← hz e (List.mem_of_getElem? he)];exact (List.getElem?_eq_some_iff.1 hu).1
        obtain ⟨h1,h2,h3⟩:=hidx k i hk hi
        obtain ⟨e',u',e1,e2,e3⟩:=hel _ h1
        rw [h2] at e1;rw [h3] at e2
        rw [he] at e1;injection e1 with e1;subst e1
        rw [hu] at e2;injection e2 with e2;subst e2
        obtain ⟨c',k1,k2,k3⟩:=g6 _ _ e3
        have:cs.getD (k * size+i) C.any=c':=by rw [List.getD_eq_getElem?_getD,k1];rfl
        simp only [this]
        exact k2.mono hzle
      · have := kO.sl (ρ := upd ρ1 n1 la) n1 0 es.length size cap la (pW _ _ _) (by show o + 0 + cap * size ≤ o + cap * size; omega) hc hm
        simpa [la] using this
end
def TC (z:dA) (a:TT) (c:C):Prop:=∃ u,TOk a u∧TZ z u c
inductive TCs (z:dA):List TT→List C→Prop where
 | nil:TCs z [] []
 | cons {a:TT} {c:C} {aq:List TT} {cs:List C} (h:TC z a c) (t:TCs z aq cs):TCs z (a::aq) (c::cs)
theorem bHT {z:dA}:∀ {aq:List TT} {cs:List C},cs.length=aq.length→(∀ (i:Nat) (a:TT) (c:C),aq[i]? = some a→cs[i]? = some c→TC z a c)→TCs z aq cs
 | [],[],_,_=>.nil
 | a::aq,c::cs,hl,h=>.cons (h 0 a c rfl rfl) (bHT (by simpa using hl) fun i a' c' h1 h2=>h (i+1) a' c' (by simpa using h1) (by simpa using h2))
 | [],_::_,hl,_=>by simp at hl
 | _::_,[],hl,_=>by simp at hl
theorem TC.b {z:dA} {c:C} (h:TC z .b c):∃ x:Bool,c=.v (.bool x):=by
 obtain ⟨u,h1,h2⟩:=h
 cases h1;cases h2;exact ⟨_,rfl⟩
theorem TC.s {z:dA} {c:C} (h:TC z .s c):∃ x:ByteArray,c=.v (.string x):=by
 obtain ⟨u,h1,h2⟩:=h
 cases h1;cases h2;exact ⟨_,rfl⟩
theorem TC.i {z:dA} {k:IntKind} {c:C} (h:TC z (.i k) c):∃ n:Int,c=.v (.int k n):=by
 obtain ⟨u,h1,h2⟩:=h
 cases h1;cases h2;exact ⟨_,rfl⟩
theorem TC.sl {z:dA} {size:Nat} {sh:List TT} {c:C} {α:Type} {R:RT α} (hs:sh.length=size) (hR:∀ cs,TCs z sh cs→∃ a,R z cs a) (h:TC z (.sl size sh) c):∃ l:List α,CZ size R z c l:=by
  obtain ⟨u,h1,h2⟩:=h
  cases h1 with
  | sl _ _ es hm hl hok =>
    cases h2 with
    | nil=>exact ⟨[],.nil⟩
    | em=>exact ⟨[],.em⟩
    | sl _ _ b cs g hb hm' Ff he hc hf =>
      have key:∀ k:Fin es.length,∃ a:α,R z ((cs.drop (0+k.1 * size)).take size) a:=fun ⟨k,hk⟩=>by
        have hkl:k * size+size≤es.length * size:=by
          calc k * size + size = (k + 1) * size := by rw [Nat.add_mul, Nat.one_mul]
            _≤es.length * size:=Nat.mul_le_mul_right _ hk
        refine hR ((cs.drop (0+k * size)).take size) (bHT (by rw [List.length_take,List.length_drop];omega) fun i a' c' h1 h2=>?_)
        have hi:i<size:=by rw [← hs];exact (List.getElem?_eq_some_iff.1 h1).1
        rw [List.getElem?_take,if_pos hi,List.getElem?_drop,Nat.zero_add,hc k i hk hi] at h2
        injection h2 with h2;subst h2
        have e1:=List.getElem?_eq_getElem hk
        have h3:(es[k]).length=size:=he _ (List.getElem_mem hk)
        have e2:(es[k])[i]? = some ((es[k])[i]'(by omega)):=List.getElem?_eq_getElem (by omega)
        exact ⟨_,hok _ i a' _ (List.getElem_mem hk) h1 e2,hf k i _ _ e1 e2⟩
      refine ⟨List.ofFn fun k=>Classical.choose (key k),.sl b 0 es.length _ cs _ (by simp) (by simp [maxLen] at hm';omega) hb rfl (by omega) fun i a hi=>?_⟩
      rw [List.getElem?_ofFn] at hi
      split at hi
      · rename_i hil
        injection hi with hi;subst hi
        exact Classical.choose_spec (key ⟨i,hil⟩)
      · cases hi
theorem bAH {b:Nat} {k:mU} (h:(Tr.nil:Tr mU).m b k):False:=by
 simp only [Tr.m,Tr.get_nil] at h
 cases h
theorem bOq (W:World):En (fun b=>b<W.heap.size) W .nil (fun _=>none) 0:=
 ⟨⟨fun b k h=>(bAH h).elim,fun b k la h=>(bAH h).elim,fun b b' k k' la la' h=>(bAH h).elim,fun b h=>h,⟨rfl,rfl,rfl,Nat.le_refl _,fun _ _=>rfl⟩⟩,fun _ _=>rfl,fun b k h=>(bAH h).elim⟩
theorem aF9 {K:Nat→Prop} {W:World}:∀ {sh:List TT} {us:List Tt} {xs:List Value},(∀ b,b<W.heap.size→K b)→Ey (TRd W) sh us xs→∀ t ρ nx,En K W t ρ nx→(∀ b,K b↔b<W.heap.size) →
  ∃ cs:List C,EnQ K W t ρ nx fun t' ρ'=>cs.length=xs.length∧TCs t'.m sh cs∧∀ (i:Nat) (c:C),cs[i]? = some c→∃ x,xs[i]? = some x∧kO ρ' c x
 | [],[],[],_,_,t,ρ,nx,h,_=>⟨[],t,ρ,nx,h,nV.le_refl _,Nat.le_refl _,zle.refl _,rfl,.nil,fun i c hc=>by simp at hc⟩
 | a::aq,u::us,x::xs,hK,h3,t,ρ,nx,h,hKK=>by
  obtain ⟨⟨ha,hu⟩,h3⟩:=h3
  have e:(fun b=>b<W.heap.size)=K:=funext fun b=>propext (hKK b).symm
  rw [e] at hu
  obtain ⟨c,t1,ρ1,n1,g1,g2,g3,g4,g5,g6⟩:=bJq hu t ρ nx h
  obtain ⟨cs,t2,ρ2,n2,k1,k2,k3,k4,k5,k6,k7⟩:=aF9 hK h3 t1 ρ1 n1 g1 hKK
  refine ⟨c::cs,t2,ρ2,n2,k1,nV.le_trans g2 k2,Nat.le_trans g3 k3,g4.trans k4,by simp [k5],.cons ⟨u,ha,g5.mono k4⟩ k6,fun i c' hc=>?_⟩
  cases i with
  | zero=>simp at hc;subst hc;exact ⟨x,rfl,g6.mono k2⟩
  | succ i=>exact k7 i c' (by simpa using hc)
 | [],_::_,_,_,h,_,_,_,_,_=>by simp [Ey] at h
 | [],[],_::_,_,h,_,_,_,_,_=>by simp [Ey] at h
 | _::_,[],_,_,h,_,_,_,_,_=>by simp [Ey] at h
 | _::_,_::_,[],_,h,_,_,_,_,_=>by simp [Ey] at h
theorem bKZ {ρ:nV} {cs:List C} {xs:Array Value} (hl:cs.length=xs.toList.length) (h:∀ (i:Nat) (c:C),cs[i]? = some c→∃ x,xs.toList[i]? = some x∧kO ρ c x):kY (kO ρ) (.agg cs) (.agg xs):=by
 refine .agg cs xs (by simpa using hl.symm) fun i c hc=>?_
 obtain ⟨x,h1,h2⟩:=h i c hc
 have:xs.getD i undef=x:=by
  rw [Array.getD_eq_getD_getElem?,← Array.getElem?_toList,h1];rfl
 rw [this];exact h2
theorem bPl {P:Program} {f:Nat} {call:eE} (hc:Bt P call) (hcal:Go.Eng.callable P f=true) {W:World} {t:Tr mU} {ρ:nV} {nx:Nat} (hE:En (fun b=>b<W.heap.size) W t ρ nx) {args:List AV}
  (hF:FC call f args t.m fun v _=>v=.c (.v (.bool true))) {vs:Array Value} (hs:vs.size=args.length) (hr:∀ k v,args[k]? = some v→kY (kO ρ) v (vs.getD k undef)) :
  Calls P f vs W fun e W'=>e=.returned (.bool true)∧Below W.heap.size W W':=by
 obtain ⟨v,mem',nx',z',H',h1,h2,h3,h4,h5,h6,h7,h8,h9⟩:=hF t nx ⟨fun b k hb=>⟨hb,hE.lt b k hb,by simp [pR]⟩,fun a ha=>by simp at ha,fun b hb=>by simp [pR] at hb,by simp [pR]⟩
 subst h9
 refine (((hc _ _ _ _ _ _ _ h1).run (fun b=>b<W.heap.size) W ρ W vs hE.sat (fun b hb _=>hE.free b hb) hs hr).calls hcal).mono fun e W' ⟨x,ρ',he,_,hm,hx⟩=>?_
 subst he
 refine ⟨?_,hm.fr.os,hm.fr.tape,hm.fr.output,hm.fr.size,hm.fr.block⟩
 cases hx with
 | c _ _ hx=>cases hx with
  | v _ _=>rfl
end Go.CE
namespace Go.Proofs.YtlceligcgelbdaaGreat
open Go.CE Go.RowKit
theorem eM {z:dA} {a:TT} {aq:List TT} {cs:List C} (h:TCs z (a::aq) cs):∃ c cs',cs=c::cs'∧TC z a c∧TCs z aq cs':=by
 cases h with
 | cons h t=>exact ⟨_,_,rfl,h,t⟩
theorem Bw {z:dA} {cs:List C} (h:TCs z [] cs):cs=[]:=by
 cases h;rfl
abbrev uV:List TT:=[.i .u32]
abbrev bGP:List TT:=[.s]
theorem bLw {z:dA} {k:IntKind} {c:C} (h:TC z (.i k) c):∃ n:Int,(Lit.int k n).wf=true∧c=.v (.int k n):=by
 obtain ⟨u,h1,h2⟩:=h
 cases h1 with
 | i _ n hn =>
  cases h2 with
  | v _=>exact ⟨n,hn,rfl⟩
theorem vD {z:dA} {cs:List C} (h:TCs z uV cs):∃ a,RW z cs a:=by
 obtain ⟨c0,t0,rfl,g0,h⟩:=eM h
 obtain rfl:=Bw h
 obtain ⟨n,hn,rfl⟩:=bLw g0
 have hr:0≤n∧n<4294967296:=by
  simp [Lit.wf,IntKind.min,IntKind.max,IntKind.bits,IntKind.signed] at hn
  omega
 refine ⟨UInt32.ofNat n.toNat,?_⟩
 show [C.v (.int .u32 n)]=[C.v (.int .u32 (((UInt32.ofNat n.toNat).toNat:Nat):Int))]
 rw [Go.Num.ofNat_toNat (by show _<4294967296;omega),Int.toNat_of_nonneg hr.1]
theorem bNp {z:dA} {cs:List C} (h:TCs z bGP cs):∃ a,RS z cs a:=by
 obtain ⟨c0,t0,rfl,g0,h⟩:=eM h
 obtain rfl:=Bw h
 obtain ⟨b0,rfl⟩:=g0.s
 exact ⟨b0,rfl⟩
abbrev aSH:List TT:=[.b,.sl 1 uV,.b,.sl 1 uV,.b,.sl 1 uV,.b,.sl 1 uV]
theorem aZk {z:dA} {cs:List C} (h:TCs z aSH cs):∃ a,tI z cs a:=by
 obtain ⟨c0,t0,rfl,g0,h⟩:=eM h
 obtain ⟨c1,t1,rfl,g1,h⟩:=eM h
 obtain ⟨c2,t2,rfl,g2,h⟩:=eM h
 obtain ⟨c3,t3,rfl,g3,h⟩:=eM h
 obtain ⟨c4,t4,rfl,g4,h⟩:=eM h
 obtain ⟨c5,t5,rfl,g5,h⟩:=eM h
 obtain ⟨c6,t6,rfl,g6,h⟩:=eM h
 obtain ⟨c7,t7,rfl,g7,h⟩:=eM h
 obtain rfl:=Bw h
 obtain ⟨b0,rfl⟩:=g0.b
 obtain ⟨b1,e1⟩:=g1.sl (R:=RW) rfl fun cs h=>vD h
 obtain ⟨b2,rfl⟩:=g2.b
 obtain ⟨b3,e3⟩:=g3.sl (R:=RW) rfl fun cs h=>vD h
 obtain ⟨b4,rfl⟩:=g4.b
 obtain ⟨b5,e5⟩:=g5.sl (R:=RW) rfl fun cs h=>vD h
 obtain ⟨b6,rfl⟩:=g6.b
 obtain ⟨b7,e7⟩:=g7.sl (R:=RW) rfl fun cs h=>vD h
 exact ⟨⟨⟨b0,b1,b2,b3⟩,⟨b4,b5,b6,b7⟩⟩,_,_,_,_,rfl,e1,e3,e5,e7⟩
abbrev aYx:List TT:=[.s,.i .u8,.b,.sl 1 uV,.b,.sl 1 uV]
theorem bGR {z:dA} {cs:List C} (h:TCs z aYx cs):∃ a,vR z cs a:=by
 obtain ⟨c0,t0,rfl,g0,h⟩:=eM h
 obtain ⟨c1,t1,rfl,g1,h⟩:=eM h
 obtain ⟨c2,t2,rfl,g2,h⟩:=eM h
 obtain ⟨c3,t3,rfl,g3,h⟩:=eM h
 obtain ⟨c4,t4,rfl,g4,h⟩:=eM h
 obtain ⟨c5,t5,rfl,g5,h⟩:=eM h
 obtain rfl:=Bw h
 obtain ⟨b0,rfl⟩:=g0.s
 obtain ⟨b1,rfl⟩:=g1.i
 obtain ⟨b2,rfl⟩:=g2.b
 obtain ⟨b3,e3⟩:=g3.sl (R:=RW) rfl fun cs h=>vD h
 obtain ⟨b4,rfl⟩:=g4.b
 obtain ⟨b5,e5⟩:=g5.sl (R:=RW) rfl fun cs h=>vD h
 exact ⟨⟨b0,b1,⟨b2,b3,b4,b5⟩⟩,_,_,rfl,e3,e5⟩
abbrev bAi:List TT:=[.s,.s,.b,.sl 1 uV,.b,.sl 1 uV]
theorem bJ0 {z:dA} {cs:List C} (h:TCs z bAi cs):∃ a,aMF z cs a:=by
 obtain ⟨c0,t0,rfl,g0,h⟩:=eM h
 obtain ⟨c1,t1,rfl,g1,h⟩:=eM h
 obtain ⟨c2,t2,rfl,g2,h⟩:=eM h
 obtain ⟨c3,t3,rfl,g3,h⟩:=eM h
 obtain ⟨c4,t4,rfl,g4,h⟩:=eM h
 obtain ⟨c5,t5,rfl,g5,h⟩:=eM h
 obtain rfl:=Bw h
 obtain ⟨b0,rfl⟩:=g0.s
 obtain ⟨b1,rfl⟩:=g1.s
 obtain ⟨b2,rfl⟩:=g2.b
 obtain ⟨b3,e3⟩:=g3.sl (R:=RW) rfl fun cs h=>vD h
 obtain ⟨b4,rfl⟩:=g4.b
 obtain ⟨b5,e5⟩:=g5.sl (R:=RW) rfl fun cs h=>vD h
 exact ⟨⟨b0,b1,⟨b2,b3,b4,b5⟩⟩,_,_,rfl,e3,e5⟩
abbrev bAX:List TT:=[.s,.s,.b,.sl 1 uV,.b,.sl 1 uV]
theorem bIT {z:dA} {cs:List C} (h:TCs z bAX cs):∃ a,aMb z cs a:=by
 obtain ⟨c0,t0,rfl,g0,h⟩:=eM h
 obtain ⟨c1,t1,rfl,g1,h⟩:=eM h
 obtain ⟨c2,t2,rfl,g2,h⟩:=eM h
 obtain ⟨c3,t3,rfl,g3,h⟩:=eM h
 obtain ⟨c4,t4,rfl,g4,h⟩:=eM h
 obtain ⟨c5,t5,rfl,g5,h⟩:=eM h
 obtain rfl:=Bw h
 obtain ⟨b0,rfl⟩:=g0.s
 obtain ⟨b1,rfl⟩:=g1.s
 obtain ⟨b2,rfl⟩:=g2.b
 obtain ⟨b3,e3⟩:=g3.sl (R:=RW) rfl fun cs h=>vD h
 obtain ⟨b4,rfl⟩:=g4.b
 obtain ⟨b5,e5⟩:=g5.sl (R:=RW) rfl fun cs h=>vD h
 exact ⟨⟨b0,b1,⟨b2,b3,b4,b5⟩⟩,_,_,rfl,e3,e5⟩
abbrev bAI:List TT:=[.b,.s,.i .u8,.s,.s,.s,.b,.sl 1 uV,.b,.sl 1 uV]
theorem bJP {z:dA} {cs:List C} (h:TCs z bAI cs):∃ a,aGn z cs a:=by
 obtain ⟨c0,t0,rfl,g0,h⟩:=eM h
 obtain ⟨c1,t1,rfl,g1,h⟩:=eM h
 obtain ⟨c2,t2,rfl,g2,h⟩:=eM h
 obtain ⟨c3,t3,rfl,g3,h⟩:=eM h
 obtain ⟨c4,t4,rfl,g4,h⟩:=eM h
 obtain ⟨c5,t5,rfl,g5,h⟩:=eM h
 obtain ⟨c6,t6,rfl,g6,h⟩:=eM h
 obtain ⟨c7,t7,rfl,g7,h⟩:=eM h
 obtain ⟨c8,t8,rfl,g8,h⟩:=eM h
 obtain ⟨c9,t9,rfl,g9,h⟩:=eM h
 obtain rfl:=Bw h
 obtain ⟨b0,rfl⟩:=g0.b
 obtain ⟨b1,rfl⟩:=g1.s
 obtain ⟨b2,rfl⟩:=g2.i
 obtain ⟨b3,rfl⟩:=g3.s
 obtain ⟨b4,rfl⟩:=g4.s
 obtain ⟨b5,rfl⟩:=g5.s
 obtain ⟨b6,rfl⟩:=g6.b
 obtain ⟨b7,e7⟩:=g7.sl (R:=RW) rfl fun cs h=>vD h
 obtain ⟨b8,rfl⟩:=g8.b
 obtain ⟨b9,e9⟩:=g9.sl (R:=RW) rfl fun cs h=>vD h
 exact ⟨⟨b0,b1,b2,b3,b4,b5,⟨b6,b7,b8,b9⟩⟩,_,_,rfl,e7,e9⟩
abbrev aXz:List TT:=[.s,.b,.sl 1 uV,.b,.sl 1 uV,.b,.sl 1 uV,.b,.sl 1 uV]
theorem bGw {z:dA} {cs:List C} (h:TCs z aXz cs):∃ a,aDq z cs a:=by
 obtain ⟨c0,t0,rfl,g0,h⟩:=eM h
 obtain ⟨c1,t1,rfl,g1,h⟩:=eM h
 obtain ⟨c2,t2,rfl,g2,h⟩:=eM h
 obtain ⟨c3,t3,rfl,g3,h⟩:=eM h
 obtain ⟨c4,t4,rfl,g4,h⟩:=eM h
 obtain ⟨c5,t5,rfl,g5,h⟩:=eM h
 obtain ⟨c6,t6,rfl,g6,h⟩:=eM h
 obtain ⟨c7,t7,rfl,g7,h⟩:=eM h
 obtain ⟨c8,t8,rfl,g8,h⟩:=eM h
 obtain rfl:=Bw h
 obtain ⟨b0,rfl⟩:=g0.s
 obtain ⟨b1,rfl⟩:=g1.b
 obtain ⟨b2,e2⟩:=g2.sl (R:=RW) rfl fun cs h=>vD h
 obtain ⟨b3,rfl⟩:=g3.b
 obtain ⟨b4,e4⟩:=g4.sl (R:=RW) rfl fun cs h=>vD h
 obtain ⟨b5,rfl⟩:=g5.b
 obtain ⟨b6,e6⟩:=g6.sl (R:=RW) rfl fun cs h=>vD h
 obtain ⟨b7,rfl⟩:=g7.b
 obtain ⟨b8,e8⟩:=g8.sl (R:=RW) rfl fun cs h=>vD h
 exact ⟨⟨b0,⟨b1,b2,b3,b4⟩,⟨b5,b6,b7,b8⟩⟩,_,_,_,_,rfl,e2,e4,e6,e8⟩
abbrev bAx:List TT:=[.s,.b,.sl 1 uV,.b,.sl 1 uV]
theorem bJ5 {z:dA} {cs:List C} (h:TCs z bAx cs):∃ a,aLV z cs a:=by
 obtain ⟨c0,t0,rfl,g0,h⟩:=eM h
 obtain ⟨c1,t1,rfl,g1,h⟩:=eM h
 obtain ⟨c2,t2,rfl,g2,h⟩:=eM h
 obtain ⟨c3,t3,rfl,g3,h⟩:=eM h
 obtain ⟨c4,t4,rfl,g4,h⟩:=eM h
 obtain rfl:=Bw h
 obtain ⟨b0,rfl⟩:=g0.s
 obtain ⟨b1,rfl⟩:=g1.b
 obtain ⟨b2,e2⟩:=g2.sl (R:=RW) rfl fun cs h=>vD h
 obtain ⟨b3,rfl⟩:=g3.b
 obtain ⟨b4,e4⟩:=g4.sl (R:=RW) rfl fun cs h=>vD h
 exact ⟨⟨b0,⟨b1,b2,b3,b4⟩⟩,_,_,rfl,e2,e4⟩
abbrev bA9:List TT:=[.i .i64,.sl 6 bAi,.sl 6 bAX,.sl 10 bAI,.sl 9 aXz,.sl 5 bAx]
theorem bKC {z:dA} {cs:List C} (h:TCs z bA9 cs):∃ a,Gk z cs a:=by
 obtain ⟨c0,t0,rfl,g0,h⟩:=eM h
 obtain ⟨c1,t1,rfl,g1,h⟩:=eM h
 obtain ⟨c2,t2,rfl,g2,h⟩:=eM h
 obtain ⟨c3,t3,rfl,g3,h⟩:=eM h
 obtain ⟨c4,t4,rfl,g4,h⟩:=eM h
 obtain ⟨c5,t5,rfl,g5,h⟩:=eM h
 obtain rfl:=Bw h
 obtain ⟨b0,rfl⟩:=g0.i
 obtain ⟨b1,e1⟩:=g1.sl (R:=aMF) rfl fun cs h=>bJ0 h
 obtain ⟨b2,e2⟩:=g2.sl (R:=aMb) rfl fun cs h=>bIT h
 obtain ⟨b3,e3⟩:=g3.sl (R:=aGn) rfl fun cs h=>bJP h
 obtain ⟨b4,e4⟩:=g4.sl (R:=aDq) rfl fun cs h=>bGw h
 obtain ⟨b5,e5⟩:=g5.sl (R:=aLV) rfl fun cs h=>bJ5 h
 exact ⟨⟨b0,b1,b2,b3,b4,b5⟩,_,_,_,_,_,rfl,e1,e2,e3,e4,e5⟩
abbrev aUN:List TT:=[.s,.s,.sl 8 aSH,.b,.sl 1 uV,.b,.sl 1 uV,.b,.sl 1 uV,.b,.sl 1 uV,.i .i64,.i .i64,.b,.sl 1 uV,.b,.sl 1 uV,.b,.sl 1 uV,.b,.sl 1 uV,.i .i64,.sl 6 aYx,.sl 1 bGP,.sl 6 bA9]
theorem bDf {z:dA} {cs:List C} (h:TCs z aUN cs):∃ a,Pm z cs a:=by
 obtain ⟨c0,t0,rfl,g0,h⟩:=eM h
 obtain ⟨c1,t1,rfl,g1,h⟩:=eM h
 obtain ⟨c2,t2,rfl,g2,h⟩:=eM h
 obtain ⟨c3,t3,rfl,g3,h⟩:=eM h
 obtain ⟨c4,t4,rfl,g4,h⟩:=eM h
 obtain ⟨c5,t5,rfl,g5,h⟩:=eM h
 obtain ⟨c6,t6,rfl,g6,h⟩:=eM h
 obtain ⟨c7,t7,rfl,g7,h⟩:=eM h
 obtain ⟨c8,t8,rfl,g8,h⟩:=eM h
 obtain ⟨c9,t9,rfl,g9,h⟩:=eM h
 obtain ⟨c10,t10,rfl,g10,h⟩:=eM h
 obtain ⟨c11,t11,rfl,g11,h⟩:=eM h
 obtain ⟨c12,t12,rfl,g12,h⟩:=eM h
 obtain ⟨c13,t13,rfl,g13,h⟩:=eM h
 obtain ⟨c14,t14,rfl,g14,h⟩:=eM h
 obtain ⟨c15,t15,rfl,g15,h⟩:=eM h
 obtain ⟨c16,t16,rfl,g16,h⟩:=eM h
 obtain ⟨c17,t17,rfl,g17,h⟩:=eM h
 obtain ⟨c18,t18,rfl,g18,h⟩:=eM h
 obtain ⟨c19,t19,rfl,g19,h⟩:=eM h
 obtain ⟨c20,t20,rfl,g20,h⟩:=eM h
 obtain ⟨c21,t21,rfl,g21,h⟩:=eM h
 obtain ⟨c22,t22,rfl,g22,h⟩:=eM h
 obtain ⟨c23,t23,rfl,g23,h⟩:=eM h
 obtain ⟨c24,t24,rfl,g24,h⟩:=eM h
 obtain rfl:=Bw h
 obtain ⟨b0,rfl⟩:=g0.s
 obtain ⟨b1,rfl⟩:=g1.s
 obtain ⟨b2,e2⟩:=g2.sl (R:=tI) rfl fun cs h=>aZk h
 obtain ⟨b3,rfl⟩:=g3.b
 obtain ⟨b4,e4⟩:=g4.sl (R:=RW) rfl fun cs h=>vD h
 obtain ⟨b5,rfl⟩:=g5.b
 obtain ⟨b6,e6⟩:=g6.sl (R:=RW) rfl fun cs h=>vD h
 obtain ⟨b7,rfl⟩:=g7.b
 obtain ⟨b8,e8⟩:=g8.sl (R:=RW) rfl fun cs h=>vD h
 obtain ⟨b9,rfl⟩:=g9.b
 obtain ⟨b10,e10⟩:=g10.sl (R:=RW) rfl fun cs h=>vD h
 obtain ⟨b11,rfl⟩:=g11.i
 obtain ⟨b12,rfl⟩:=g12.i
 obtain ⟨b13,rfl⟩:=g13.b
 obtain ⟨b14,e14⟩:=g14.sl (R:=RW) rfl fun cs h=>vD h
 obtain ⟨b15,rfl⟩:=g15.b
 obtain ⟨b16,e16⟩:=g16.sl (R:=RW) rfl fun cs h=>vD h
 obtain ⟨b17,rfl⟩:=g17.b
 obtain ⟨b18,e18⟩:=g18.sl (R:=RW) rfl fun cs h=>vD h
 obtain ⟨b19,rfl⟩:=g19.b
 obtain ⟨b20,e20⟩:=g20.sl (R:=RW) rfl fun cs h=>vD h
 obtain ⟨b21,rfl⟩:=g21.i
 obtain ⟨b22,e22⟩:=g22.sl (R:=vR) rfl fun cs h=>bGR h
 obtain ⟨b23,e23⟩:=g23.sl (R:=RS) rfl fun cs h=>bNp h
 obtain ⟨b24,e24⟩:=g24.sl (R:=Gk) rfl fun cs h=>bKC h
 exact ⟨⟨b0,b1,b2,⟨b3,b4,b5,b6⟩,⟨b7,b8,b9,b10⟩,b11,b12,⟨b13,b14,b15,b16⟩,⟨b17,b18,b19,b20⟩,b21,b22,b23,b24⟩,_,_,_,_,_,_,_,_,_,_,_,_,rfl,e2,e4,e6,e8,e10,e14,e16,e18,e20,e22,e23,e24⟩
end Go.Proofs.YtlceligcgelbdaaGreat

/- A reckoner for closed calls, part 1: what a state says of a world, and what an instruction does. -/
import Derived.WalkKit
import Derived.Great.BuildSlice
import Derived.Laws.MakeOwn
import Derived.Lib.AppendStr
import Derived.Laws.StructEq
import Derived.Orders
import Derived.ProofKit

set_option linter.unusedVariables false
set_option linter.unusedSimpArgs false
namespace Go.Eng
open Go.RowKit
inductive Od where
 | t (i:Nat)
 | k (v:Value)
 | f (f:Nat)
 | bad
def Od.of:Operand→Od
 | .tmp i=>.t i
 | .const x=>.k x
 | .func g=>.f g
 | .global _=>.bad
def aAh (P:Program) (t:TypeId):Option Bool:=
 match P.underlying t with
 | some (.struct _) | some (.array _ _)=>some true
 | some _=>some false
 | none=>none
def K4 (P:Program) (t:TypeId):Option (List Value):=
 match P.info? t with
 | some i=>match i.zero with
  | some z=>if z.cells.toList.all Value.oneCell'=true∧z.cells.size=i.size then some z.cells.toList else none
  | none=>none
 | none=>none
def sP (P:Program) (t:TypeId):Option Nat:=(P.info? t).map (·.size)
def Ti (P:Program) (t:TypeId):Option Nat:=(P.info? t).map (·.bytes)
def Le (places:List (Nat×Nat)):List (Nat×Operand)→Option (List (Nat×Nat×Od))
 | []=>some []
 | (i,x)::r=>match places[i]?,Le places r with
  | some (off,s),some l=>some ((off,s,Od.of x)::l)
  | _,_=>none
def aM3 (P:Program) (t:TypeId):Bool:=match P.underlying t with
 | some .string=>true
 | _=>false
theorem V4 {P:Program} {t:TypeId} (h:aM3 P t=true):P.underlying t=some .string:=by
 unfold aM3 at h
 split at h
 ·assumption
 cases h
def need {α:Type} (c:Prop) [Decidable c] (x:Option α):Option α:=if c then x else none
theorem need_pos {α:Type} {c:Prop} [Decidable c] (h:c) (x:Option α):need c x=x:=by simp [need,h]
theorem iE {α:Type} {c:Prop} [Decidable c] {x:Option α} {y:α} (h:need c x=some y):c∧x=some y:=by
 unfold need at h
 split at h
 ·exact ⟨‹_›,h⟩
 cases h
def kN {α:Type} (l:List α) (j:Nat) (x:List α):List α:=l.take j++x++l.drop (j+x.length)
def bget (s:ByteArray) (k:Nat):UInt8:=s.data.toList.getD k 0
def binV:BinOp→Value→Value→Option Value
 | .add,.int k a,.int k' b=>need (k=k') (some (.int k (k.wrap (a+b))))
 | .sub,.int k a,.int k' b=>need (k=k') (some (.int k (k.wrap (a - b))))
 | .mul,.int k a,.int k' b=>need (k=k') (some (.int k (k.wrap (a * b))))
 | .quo,.int k a,.int k' b=>need (k=k'∧b≠0) (some (.int k (k.wrap (a.tdiv b))))
 | .rem,.int k a,.int k' b=>need (k=k'∧b≠0) (some (.int k (a.tmod b)))
 | .and,.int k a,.int k' b=>need (k=k') (some (.int k (k.wrap (BitVec.ofInt k.bits a &&& BitVec.ofInt k.bits b).toNat)))
 | .or,.int k a,.int k' b=>need (k=k') (some (.int k (k.wrap (BitVec.ofInt k.bits a ||| BitVec.ofInt k.bits b).toNat)))
 | .xor,.int k a,.int k' b=>need (k=k') (some (.int k (k.wrap (BitVec.ofInt k.bits a ^^^ BitVec.ofInt k.bits b).toNat)))
 | .andNot,.int k a,.int k' b=>need (k=k') (some (.int k (k.wrap (BitVec.ofInt k.bits a &&& ~~~ BitVec.ofInt k.bits b).toNat)))
 | .shl,.int k a,.int _ b=>need (0≤b) (some (.int k (k.wrap (a * 2 ^ min b.toNat k.bits))))
 | .shr,.int k a,.int _ b=>need (0≤b) (some (.int k (a.fdiv (2 ^ min b.toNat k.bits))))
 | .eql,.int k a,.int k' b=>need (k=k') (some (.bool (a == b)))
 | .neq,.int k a,.int k' b=>need (k=k') (some (.bool (a != b)))
 | .lss,.int k a,.int k' b=>need (k=k') (some (.bool (decide (a<b))))
 | .leq,.int k a,.int k' b=>need (k=k') (some (.bool (decide (a≤b))))
 | .gtr,.int k a,.int k' b=>need (k=k') (some (.bool (decide (a > b))))
 | .geq,.int k a,.int k' b=>need (k=k') (some (.bool (decide (a ≥ b))))
 | .add,.string a,.string b=>need (a.size+b.size≤9223372036854775807) (some (.string (a++b)))
 | .eql,.string a,.string b=>some (.bool (a.toList == b.toList))
 | .neq,.string a,.string b=>some (.bool (!(a.toList == b.toList)))
 | .lss,.string a,.string b=>some (.bool (Op.bytesLess a.toList b.toList))
 | .leq,.string a,.string b=>some (.bool (Op.bytesLess a.toList b.toList || a.toList == b.toList))
 | .gtr,.string a,.string b=>some (.bool (!(Op.bytesLess a.toList b.toList || a.toList == b.toList)))
 | .geq,.string a,.string b=>some (.bool (!(Op.bytesLess a.toList b.toList)))
 | _,_,_=>none
def binBV:BinOp→Value→Value→Option Value
 | .eql,.bool a,.bool b=>some (.bool (a == b))
 | .neq,.bool a,.bool b=>some (.bool (!(a == b)))
 | _,_,_=>none
def unV:UnOp→Value→Option Value
 | .not,.bool b=>some (.bool (!b))
 | .neg,.int k n=>some (.int k (k.wrap (0 - n)))
 | _,_=>none
open Go.RowKit
section inv
variable {SF SA:Nat→Prop} {w:World}
theorem aDW {x:Value} (h:x.oneCell'=true):x.cells = #[x]:=by
 cases x<;>first | rfl | (simp [Value.oneCell'] at h)
end inv
section
variable {a:Act} {w:World}
def aGs (w W:World):Prop:=∀ A v,w.cell? A=some v→W.cell? A=some v
theorem aGs.rfl' {w:World}:aGs w w:=fun _ _ h=>h
theorem uF {P:Program} (w:World) {t:TypeId} {g:Bool} {size:Nat} (hg:aAh P t=some g) (hs:sP P t=some size) (hok:g=true∨size=1) (b o:Nat) (xs:List Value)
    (hl:xs.length=size) (hc:∀ j v,xs[j]? = some v→w.cell? ⟨b,o+j,none⟩=some v) :
    (loadVar t ⟨b,o,none⟩).run P w=.ok (if g=true then .agg xs.toArray else xs.getD 0 undef) w:=by
  have hcells:(loadCells ⟨b,o,none⟩ xs.length).run P w=.ok xs.toArray w:=run_loadCells_list w ⟨b,o,none⟩ xs fun j v hv=>by
    have:(⟨b,o,none⟩:Addr).add j=⟨b,o+j,none⟩:=by unfold Addr.add;split<;>simp_all
    rw [this];exact hc j v hv
  unfold sP at hs
  cases hi:P.info? t with
  | none=>simp [hi] at hs
  | some i =>
    simp [hi] at hs
    unfold aAh at hg
    cases hu:P.underlying t with
    | none=>simp [hu] at hg
    | some d =>
      simp only [hu] at hg
      have hagg:(isAgg t).run P w=.ok g w:=by
        unfold isAgg
        rw [Sem.run_bind,run_underlying hu w]
        cases d<;>simp_all
      cases g
      · have h1 : size = 1 := by simpa using hok
        have h0:xs.length=1:=by omega
        match xs,h0 with
        | [x],_ =>
          have hx:=hc 0 x (by simp)
          simp at hx
          simp [loadVar,Sem.run_bind,hagg,hx]
      · rw [hl] at hcells
        simp [loadVar,Sem.run_bind,hagg,sizeOf,typeInfo,hi,hs,hcells]
theorem nK {o:Oper} {s:Sem Value} {P:Program} {x:Value} {w':World} (ho:execOp a.eval o=(do pure (.value (← s)))) (hs:s.run P w=.ok x w') :
  (execOp a.eval o).run P w=.ok (.value x) w':=by
 rw [ho];simp [hs]
end
open Go.RowKit
section
variable {a:Act} {w:World}
theorem bE2 {P:Program} {t:TypeId} {x y:Operand} (u v:ByteArray) (hc:u.size+v.size≤9223372036854775807) :
  (do eqGuard .add t x y (.string u) (.string v);binOp .add t (.string u) (.string v):Sem Value).run P w=.ok (.string (u++v)) w:=by
 have hm:IntKind.i64.max=9223372036854775807:=by decide
 have hn:¬ ((u.size+v.size:Nat):Int) > IntKind.i64.max:=by rw [hm];omega
 simp only [eqGuard,binOp,Op.stringOp,hn,if_false]
 simp
theorem run_binV {P:Program} {op:BinOp} {u v r:Value} {t:TypeId} {x y:Operand} (ht:(∃ k,P.underlying t=some (.int k))∨P.underlying t=some .string) (h:binV op u v=some r) :
    (do eqGuard op t x y u v;binOp op t u v:Sem Value).run P w=.ok r w:=by
  unfold binV at h
  split at h <;>
    first
    | (obtain ⟨hc, he⟩ := iE h
       injection he with he
       subst he
       first
       | (subst hc;simp [eqGuard,binOp,Op.intArith,Op.intBits,Op.intCmp];done)
       | (obtain ⟨rfl,hb⟩:=hc;simp [eqGuard,binOp,Op.intDiv,hb];done)
       | (have hn:¬ (_:Int)<0:=Int.not_lt.2 hc;simp [eqGuard,binOp,Op.shift,hn];done)
       | exact bE2 _ _ hc)
    | (injection h with he
       subst he
       simp [eqGuard,binOp,Op.stringOp]
       done)
    | cases h
end
open Go.RowKit
theorem F8 (b o n:Nat):(⟨b,o,none⟩:Addr).add n=⟨b,o+n,none⟩:=by unfold Addr.add;split<;>simp_all
section
variable {a:Act} {w:World}
theorem run_sizeOf {P:Program} {t:TypeId} {s:Nat} (h:sP P t=some s) (w:World):(sizeOf t).run P w=.ok s w:=by
 unfold sP at h
 cases hi:P.info? t with
 | none=>simp [hi] at h
 | some i=>simp [hi] at h;subst h;simp [sizeOf,typeInfo,hi]
theorem Wl {P:Program} {t:TypeId} {g:Bool} (h:aAh P t=some g) (w:World):(isAgg t).run P w=.ok g w:=by
 unfold aAh at h
 cases hu:P.underlying t with
 | none=>simp [hu] at h
 | some d =>
  simp only [hu] at h
  unfold isAgg
  rw [Sem.run_bind,run_underlying hu w]
  cases d<;>simp_all
theorem aB6 {P:Program} {t:TypeId} {g:Bool} {s:Nat} (hg:aAh P t=some g) (hs:sP P t=some s) (hok:g=true∨s=1) (cs:Array Value) (off:Nat) (hl:off+s≤cs.size) (w:World) :
    (part t cs off).run P w=.ok (if g=true then .agg ((cs.toList.drop off).take s).toArray else ((cs.toList.drop off).take s).getD 0 undef) w:=by
  cases g
  · have h1 : s = 1 := by simpa using hok
    subst h1
    have hlt:off<cs.size:=by omega
    simp [part,Wl hg,hlt,List.getD_eq_getElem?_getD]
  · simp only [part,Sem.run_bind,Wl hg,Result.andThen_ok,if_true,run_sizeOf hs,Sem.run_pure]
    congr 2
    apply Array.ext'
    simp [Array.toList_extract,List.extract_eq_take_drop]
theorem wH {P:Program} (k:IntKind) (n:Int) (w:World):(asIntOf (.int k n)).run P w=.ok (k,n) w:=rfl
theorem aFY (s:ByteArray) (k:Nat) (h:k<s.size):s[k]? = some (bget s k):=by
 have hk:k<s.data.toList.length:=by simpa using h
 rw [getElem?_pos s k h]
 simp [bget,List.getD_eq_getElem?_getD,List.getElem?_eq_getElem hk]
 rfl
theorem aGG {o:Oper} {c:Call} {t:TypeId} {x:Operand} (ho:o.op=.call c) (hc1:c.callee=.builtin .len) (hc3:c.args.toList=[x]) :
  execOp a.eval o=(do pure (.value (← Builtin.len_ c.argTypes o.type #[a.eval x]))):=by
 have hargs:c.args = #[x]:=by
  apply Array.ext'
  simpa using hc3
 simp [execOp,ho,resolve,hc1,hargs,invoke,builtin]
end
open Go.RowKit
theorem setL_length {α:Type} (l:List α) (j:Nat) (x:List α) (h:j+x.length≤l.length):(kN l j x).length=l.length:=by simp [kN];omega
theorem Bi {α:Type} (l:List α) (j:Nat) (x:List α) (h:j+x.length≤l.length) (i:Nat) :
    (kN l j x)[i]? = if i<j then l[i]? else if i<j+x.length then x[i - j]? else l[i]?:=by
  unfold kN
  by_cases h1:i<j
  · rw [if_pos h1,List.append_assoc,List.getElem?_append_left (by simp;omega),List.getElem?_take,if_pos h1]
  · rw [if_neg h1, List.append_assoc, List.getElem?_append_right (by simp; omega)]
    have e:(l.take j).length=j:=by simp;omega
    rw [e]
    by_cases h2:i<j+x.length
    · rw [if_pos h2,List.getElem?_append_left (by omega)]
    · rw [if_neg h2, List.getElem?_append_right (by omega), List.getElem?_drop]
      congr 1
      omega
theorem aS2:∀ (xs:List Value) (n off:Nat) (cells:Array Value),off+n+xs.length≤cells.size →
  ((xs.zipIdx n).foldl (fun cs (p:Value×Nat)=>cs.setIfInBounds (off+p.2) p.1) cells).toList=kN cells.toList (off+n) xs
 | [],n,off,cells,_=>by simp [kN]
 | x::xs,n,off,cells,h=>by
  have hl:off+(n+1)+xs.length≤cells.size:=by simp at h;omega
  have ih:=aS2 xs (n+1) off (cells.setIfInBounds (off+n) x) (by simpa using hl)
  simp only [List.zipIdx_cons,List.foldl_cons]
  rw [ih]
  have hstep:=list_seg_step cells.toList (off+n) x xs (by simp;omega)
  simp only [kN,Array.toList_setIfInBounds,List.length_cons]
  rw [← Nat.add_assoc off n 1]
  exact hstep
theorem Wc {place:Nat→Option (Nat×Nat)} {cells:Array Value} {i off size:Nat} {v:Value} {rest:List (Nat×Value)} (hp:place i=some (off,size)) (hv:v.cells.size=size) (hl:off+size≤cells.size) :
  Instr.fill place cells ((i,v)::rest)=Instr.fill place (kN cells.toList off v.cells.toList).toArray rest:=by
 have hf:(v.cells.zipIdx.foldl (fun cs (p:Value×Nat)=>cs.setIfInBounds (off+p.2) p.1) cells)=(kN cells.toList off v.cells.toList).toArray:=by
  apply Array.ext'
  rw [← Array.foldl_toList,Array.toList_zipIdx]
  have:=aS2 v.cells.toList 0 off cells (by simp;omega)
  simpa using this
 simp only [Instr.fill,hp]
 rw [if_neg (by simp;omega)]
 rw [← hf]
section
variable {a:Act} {w:World}
theorem Ae {P:Program} {e:TypeId} {z:List Value} (h:K4 P e=some z):∃ i zv,P.info? e=some i∧i.zero=some zv∧z=zv.cells.toList∧(∀ x,x∈z→x.oneCell'=true)∧zv.cells.size=i.size:=by
 unfold K4 at h
 cases hi:P.info? e with
 | none=>simp [hi] at h
 | some i =>
  cases hz:i.zero with
  | none=>simp [hi,hz] at h
  | some zv =>
   simp only [hi,hz] at h
   split at h
   ·rename_i hc
    injection h with h
    subst h
    exact ⟨i,zv,rfl,hz,rfl,fun x hx=>List.all_eq_true.1 hc.1 x hx,hc.2⟩
   cases h
theorem Gi {P:Program} (isSlice:Bool) (len cap:Nat) (lo hi:Option Value) (l h:Int) (hlc:len≤cap)
    (hlo:(lo=none∧l=0)∨∃ k,lo=some (.int k l)) (hhi:(hi=none∧h=len)∨∃ k,hi=some (.int k h)) (h0:0≤l) (h1:l≤h) (h2:h≤cap) (w:World) :
    (Instr.sliceBounds isSlice len cap lo hi none).run P w=.ok (l.toNat,h.toNat,cap) w:=by
  have hn:0≤h:=by omega
  rcases hlo with ⟨rfl,rfl⟩ | ⟨k1,rfl⟩<;>rcases hhi with ⟨rfl,rfl⟩ | ⟨k2,rfl⟩
  · simp [Instr.sliceBounds]
  · simp [Instr.sliceBounds,Instr.sliceBound,wH,hn,h2]
  · have h3:l≤(len:Int):=h1
    simp [Instr.sliceBounds,Instr.sliceBound,wH,h0,h3]
  · have h3 : l ≤ (h.toNat : Int) := by omega
    have h4:¬ max h 0<l:=by omega
    simp [Instr.sliceBounds,Instr.sliceBound,wH,hn,h2,h0,h3,h1,h4]
    try (intro h5;omega)
end
open Go.RowKit
section
variable {a:Act} {w:World}
theorem kJ (xs:Array Value) (i:Nat):xs.getD i undef=xs.toList.getD i undef:=by simp [Array.getD_eq_getD_getElem?,List.getD_eq_getElem?_getD]
theorem Hw {places:List (Nat×Nat)}:∀ {parts:List (Nat×Operand)} {l:List (Nat×Nat×Od)},Le places parts=some l →
  (∀ (k:Nat) (p:Nat×Operand),parts[k]? = some p→∃ q,l[k]? = some q∧places[p.1]? = some (q.1,q.2.1)∧q.2.2=Od.of p.2)∧l.length=parts.length
 | [],l,h=>by simp [Le] at h;subst h;simp
 | (i,x)::parts,l,h=>by
  simp only [Le] at h
  split at h
  ·rename_i off s l' hi hl
   injection h with h
   subst h
   obtain ⟨i1,i2⟩:=Hw hl
   refine ⟨fun k p hk=>?_,by simp [i2]⟩
   cases k with
   | zero=>simp at hk;subst hk;exact ⟨_,rfl,hi,rfl⟩
   | succ k=>simpa using i1 k p (by simpa using hk)
  cases h
end
open Go.RowKit
section
variable {a:Act} {w:World}
theorem aFa {P:Program} {t e:TypeId} {len:Nat} {parts:Array (Nat×Value)} {i:TypeInfo} {zv:Value} {cells:Array Value} (hu:P.underlying t=some (.slice e)) (hi:P.info? e=some i) (hz:i.zero=some zv)
  (hsm:len * i.size≤16777216) (aLt:0<i.size) (h1:Instr.fill (fun j=>some (j * i.size,i.size)) (madeCells zv.cells (len * i.size)) parts.toList=some cells) :
  (Instr.buildSlice t len parts).run P w=.ok (.slice (some ⟨w.heap.size,0,none⟩) len len) (w.alloc (.cells cells e)):=by
 have hsmall:¬ 2 ^ 24<len * i.size:=by omega
 by_cases h0:len * i.size=0
 ·have hl0:len=0:=by
   rcases Nat.mul_eq_zero.1 h0 with h4 | h4
   ·exact h4
   omega
  subst hl0
  have hr:Array.range 0=(#[]:Array Nat):=rfl
  have h1'':Instr.fill (fun j=>some (j * i.size,i.size)) #[] parts.toList=some cells:=by
   simpa [madeCells,hr] using h1
  have hs':(sizeOf e).run P w=.ok i.size w:=by simp [sizeOf,typeInfo,hi]
  simp only [Instr.buildSlice,Sem.run_bind,run_underlying hu,Result.andThen_ok,hs',Nat.zero_mul]
  simp [hr,h1'',newRow]
 exact run_buildSlice w t e len _ _ i zv hu hi hz hsmall h0 h1
end
open Go.RowKit
section
variable {a:Act} {w:World}
theorem Ko {P:Program} {t:TypeId} {s:Nat} (hs:sP P t=some s) (g o:Nat) (ty:TypeId) (cur:Array Value) (v:Value) (hh:w.heap[g]? = some (.cells cur ty (0,0))) (hv:v.cells.size=s)
  (hl:o+s≤cur.size) (h1:∀ x,x∈v.cells.toList→x.oneCell'=true) :
  (storeVar t ⟨g,o,none⟩ v).run P w=.ok () (w.setRow g (kN cur.toList o v.cells.toList).toArray):=by
 have hr:=run_storeCells_at P g o ty v.cells.toList 0 cur w hh (by simp;omega) h1
 simp only [Nat.add_zero] at hr
 have hs':=run_sizeOf (P:=P) hs w
 unfold storeVar
 simp only [Sem.run_bind,hs',Result.andThen_ok,hv,ne_eq,not_true_eq_false,if_false]
 simpa [kN] using hr
theorem J1 {P:Program} {A:Option Addr} {n c:Nat} (W:World):(Builtin.lenOf (.slice A n c)).run P W=.ok n W:=by simp [Builtin.lenOf]
theorem aAk {P:Program} {s:ByteArray} (W:World):(Builtin.lenOf (.string s)).run P W=.ok s.size W:=by simp [Builtin.lenOf]
theorem aEd {P:Program} (size n:Nat) (b o len cap:Nat) (xs:List Value) (hl:xs.length=n * size) (hc:∀ j u,xs[j]? = some u→w.cell? ⟨b,o+j,none⟩=some u) :
  ∀ W:World,W.heap=w.heap→(Builtin.firstCells size n (.slice (some ⟨b,o,none⟩) len cap)).run P W=.ok xs.toArray W:=by
 intro W hW
 refine run_firstCells_some W size n ⟨b,o,none⟩ len cap xs hl fun j u hu=>?_
 rw [F8]
 have:=hc j u hu
 rwa [← World.cell?_of_block (w':=W) (w:=w) (by rw [hW])] at this
theorem N3 {P:Program} (size:Nat) (A:Option Addr) (len cap:Nat) (W:World):(Builtin.firstCells size 0 (.slice A len cap)).run P W=.ok #[] W:=by
 cases A<;>simp [Builtin.firstCells,loadCells,loadCellsFrom]
theorem La {P:Program} {t u ty e:TypeId} {i:TypeInfo} {z:Value} (hu:P.underlying t=some (.slice e)) (huu:u=t∨P.underlying u=some .string) (hi:P.info? e=some i) (hz:i.zero=some z)
  {D:Option Addr} {V:Value} {n cap m:Nat} {olds news:List Value} (ho:∀ W:World,W.heap=w.heap→(Builtin.firstCells i.size n (.slice D n cap)).run P W=.ok olds.toArray W)
  (hn:∀ W:World,W.heap=w.heap→(Builtin.firstCells i.size m V).run P W=.ok news.toArray W) (hV:∀ W:World,(Builtin.lenOf V).run P W=.ok m W)
  (hg:cap<n+m) (h63:n+m≤9223372036854775807) (hb:(n+m) * i.bytes≤140737488355328) :
  (Builtin.append_ #[t,u] ty #[.slice D n cap,V]).run P w =
   .ok (.slice (some ⟨w.heap.size,0,none⟩) (n+m) (grownCap w (n+m) cap e))
    (w.drew.alloc (.cells (olds++news++(Builtin.zeroCells z.cells (grownCap w (n+m) cap e - (n+m))).toList).toArray e)):=by
 have h1:¬ (n+m≤cap):=by omega
 have h2:¬ (9223372036854775807<((n:Int)+(m:Int))):=by omega
 have h3:¬ (281474976710656<Builtin.nextslicecap (n+m) cap * i.bytes):=by have:=growslice_fits hg hb;omega
 have ho':=ho w.drew rfl
 have hn':=hn w.drew rfl
 have hV':=hV w
 rcases huu with rfl | huu
 ·simp [Builtin.append_,run_underlying hu,sizeOf,typeInfo,zeroValue,hi,hz,hV',h1,h2,h3,Question.forced,ho',hn',newRow,grownCap]
  congr 2
  apply Array.ext'
  simp
 simp [Builtin.append_,run_underlying hu,run_underlying huu,sizeOf,typeInfo,zeroValue,hi,hz,hV',h1,h2,h3,Question.forced,ho',hn',newRow,grownCap]
 congr 2
 apply Array.ext'
 simp
end
end Go.Eng
namespace Go.CE
theorem O {α:Sort _} {a:α}:a=a:=rfl
theorem F:True:=trivial
open Go.RowKit
inductive Tr (α:Type) where
 | nil
 | node (v:Option α) (l r:Tr α)
def Tr.get {α:Type}:Tr α→Nat→Option α
 | .nil,_=>none
 | .node v l r,k=>match k with
  | 0=>v
  | k+1=>match Nat.beq (k % 2) 0 with
   | true=>l.get (k / 2)
   | false=>r.get (k / 2)
def Tr.put {α:Type}:Nat→Tr α→Nat→Option α→Tr α
 | 0,t,_,_=>t
 | n+1,.nil,k,x=>match k with
  | 0=>.node x .nil .nil
  | k+1=>match Nat.beq (k % 2) 0 with
   | true=>.node none (Tr.put n .nil (k / 2) x) .nil
   | false=>.node none .nil (Tr.put n .nil (k / 2) x)
 | n+1,.node v l r,k,x=>match k with
  | 0=>.node x l r
  | k+1=>match Nat.beq (k % 2) 0 with
   | true=>.node v (Tr.put n l (k / 2) x) r
   | false=>.node v l (Tr.put n r (k / 2) x)
theorem Tr.get_nil {α:Type} (k:Nat):(Tr.nil:Tr α).get k=none:=by cases k<;>rfl
theorem Tr.get_put {α:Type}:∀ (n:Nat) (t:Tr α) (k:Nat) (x:Option α) (i:Nat),k<n→(Tr.put n t k x).get i=if k=i then x else t.get i:=by
  intro n
  induction n with
  | zero=>intro t k x i h;omega
  | succ n ih =>
    intro t k x i h
    have key:∀ (j m:Nat),Nat.beq (j % 2) 0=Nat.beq (m % 2) 0→j / 2=m / 2→j=m:=by
      intro j m h1 h2
      have e1:(j % 2=0)↔(m % 2=0):=by
        rw [← Nat.beq_eq,← Nat.beq_eq,h1]
      omega
    cases t with
    | nil =>
      cases k with
      | zero =>
        cases i with
        | zero=>simp [Tr.put,Tr.get]
        | succ i =>
          simp only [Tr.put,Tr.get,Tr.get_nil]
          rw [if_neg (by omega)]
          cases Nat.beq (i % 2) 0<;>simp [Tr.get_nil]
      | succ k =>
        cases i with
        | zero =>
          simp only [Tr.put,Tr.get_nil]
          rw [if_neg (by omega)]
          cases Nat.beq (k % 2) 0<;>simp [Tr.get]
        | succ i =>
          simp only [Tr.put,Tr.get_nil]
          by_cases e:k=i
          · subst e
            rw [if_pos rfl]
            cases hb:Nat.beq (k % 2) 0<;>simp only [Tr.get,hb]<;>rw [ih _ _ _ _ (by omega),if_pos rfl]
          · rw [if_neg (by omega)]
            cases hb:Nat.beq (k % 2) 0<;>simp only [Tr.get]<;>cases hi:Nat.beq (i % 2) 0<;>simp only [Tr.get_nil] <;>
              (rw [ih _ _ _ _ (by omega),if_neg (fun h2=>e (key k i (by rw [hb,hi]) h2)),Tr.get_nil])
    | node v l r =>
      cases k with
      | zero =>
        cases i with
        | zero=>simp [Tr.put,Tr.get]
        | succ i=>simp only [Tr.put,Tr.get];rw [if_neg (by omega)]
      | succ k =>
        cases i with
        | zero =>
          simp only [Tr.put]
          rw [if_neg (by omega)]
          cases Nat.beq (k % 2) 0<;>simp [Tr.get]
        | succ i =>
          simp only [Tr.put]
          by_cases e:k=i
          · subst e
            rw [if_pos rfl]
            cases hb:Nat.beq (k % 2) 0<;>simp only [Tr.get,hb]<;>rw [ih _ _ _ _ (by omega),if_pos rfl]
          · rw [if_neg (by omega)]
            cases hb:Nat.beq (k % 2) 0<;>simp only [Tr.get]<;>cases hi:Nat.beq (i % 2) 0<;>simp only [] <;>
              (rw [ih _ _ _ _ (by omega),if_neg (fun h2=>e (key k i (by rw [hb,hi]) h2))])
inductive C where
 | any
 | v (x:Value)
 | ptr (b o:Nat)
 | sl (b o n s:Nat)
 | fn (f:FuncId) (first caps:List (Bool×List C))
 | mp (b:Nat)
 | em
 | yl (b:Nat)
inductive AV where
 | any
 | c (c:C)
 | agg (cs:List C)
 | tup (vs:List AV)
inductive mU where
 | cells (ty:Nat) (cs:List C)
 | ro (cs:List C)
 | sit (s:ByteArray) (pos:Nat)
 | mp (es:List (Value×AV×Nat)) (clock:Nat)
 | mit (m since c0:Nat) (seen:Array Nat)
 | mcur (m n c:Nat)
def mU.isRo:mU→Bool
 | .ro _=>true
 | .mcur _ _ _=>true
 | _=>false
structure AS where
 env:Tr AV
 mem:Tr mU
 nx:Nat
def AS.get (st:AS) (i:Nat):AV:=match st.env.get i with
 | some v=>v
 | none=>.any
def AS.put (st:AS) (d:Nat) (v:AV):AS:=⟨Tr.put (d+1) st.env d (some v),st.mem,st.nx⟩
def AS.putO (st:AS) (d:Option Nat) (v:AV):AS:=match d with | some d=>st.put d v | none=>st
theorem get_put (st:AS) (d i:Nat) (v:AV):(st.put d v).get i=if d=i then v else st.get i:=by
 simp only [AS.get,AS.put]
 rw [Tr.get_put _ _ _ _ _ (by omega)]
 split
 ·rename_i h;split at h<;>simp_all
 rename_i h;split at h<;>simp_all
structure Pl where
 b:Nat
 off:Nat
 tot:Nat
abbrev nV:=Nat→Option Pl
def nV.le (ρ ρ':nV):Prop:=∀ b la,ρ b=some la→ρ' b=some la
theorem nV.le_refl (ρ:nV):ρ.le ρ:=fun _ _ h=>h
theorem nV.le_trans {ρ ρ' ρ'':nV} (h:ρ.le ρ') (g:ρ'.le ρ''):ρ.le ρ'':=fun b la hb=>g b la (h b la hb)
def upd (ρ:nV) (b:Nat) (la:Pl):nV:=fun i=>if i=b then some la else ρ i
theorem pW (ρ:nV) (b:Nat) (la:Pl):upd ρ b la b=some la:=by simp [upd]
theorem uE (ρ:nV) (b:Nat) (la:Pl) (i:Nat) (h:i≠b):upd ρ b la i=ρ i:=by simp [upd,h]
def aYC (p:Bool×List C) (x:Value):Prop:=if p.1=true then ∃ xs,x=.agg xs∧xs.size=p.2.length else p.2.length=1
def aE8 (b:Bool) (x:Value) (j:Nat):Value:=match b,x with
 | true,.agg xs=>xs.getD j undef
 | _,x=>x
inductive kO (ρ:nV):C→Value→Prop where
 | any (x:Value) (h1:x.oneCell'=true):kO ρ .any x
 | v (x:Value) (h1:x.oneCell'=true):kO ρ (.v x) x
 | ptr (b o:Nat) (la:Pl) (h:ρ b=some la):kO ρ (.ptr b o) (.pointer (some ⟨la.b,la.off+o,none⟩))
 | sl (b o n s cap:Nat) (la:Pl) (h:ρ b=some la) (hb:la.off+o+cap * s≤la.tot) (hn:n≤cap) (hm:cap≤maxLen) :
   kO ρ (.sl b o n s) (.slice (some ⟨la.b,la.off+o,none⟩) n cap)
 | fn (f:FuncId) (first caps:List (Bool×List C)) (us vs:Array Value) (h0:Nat.blt f 1000000=true) (h1:us.size=first.length) (h2:vs.size=caps.length)
   (s1:∀ (i:Nat) (p:Bool×List C),first[i]? = some p→aYC p (us.getD i undef)) (s2:∀ (i:Nat) (p:Bool×List C),caps[i]? = some p→aYC p (vs.getD i undef))
   (hf:∀ (i:Nat) (p:Bool×List C) (j:Nat) (c:C),first[i]? = some p→p.2[j]? = some c→kO ρ c (aE8 p.1 (us.getD i undef) j))
   (h:∀ (i:Nat) (p:Bool×List C) (j:Nat) (c:C),caps[i]? = some p→p.2[j]? = some c→kO ρ c (aE8 p.1 (vs.getD i undef) j)):kO ρ (.fn f first caps) (.func (.func f) us vs)
 | mp (b:Nat) (la:Pl) (h:ρ b=some la):kO ρ (.mp b) (.map (some la.b))
 | em (A:Addr) (cap:Nat):kO ρ .em (.slice (some A) 0 cap)
 | yl (b:Nat) (la:Pl) (h:ρ b=some la):kO ρ (.yl b) (.func (.yield la.b) #[] #[])
theorem kO.one {ρ:nV} {c:C} {x:Value} (h:kO ρ c x):x.oneCell'=true:=by
 cases h with
 | any _ h1=>exact h1
 | v _ h1=>exact h1
 | _=>rfl
theorem kO.mono {ρ ρ':nV} (hρ:ρ.le ρ') {c:C} {x:Value} (h:kO ρ c x):kO ρ' c x:=by
 induction h with
 | any x h=>exact .any x h
 | v x h=>exact .v x h
 | ptr b o la h=>exact .ptr b o la (hρ _ _ h)
 | sl b o n s cap la h hb hn hm=>exact .sl b o n s cap la (hρ _ _ h) hb hn hm
 | fn f first caps us vs h0 h1 h2 s1 s2 hf h ih1 ih2=>exact .fn f first caps us vs h0 h1 h2 s1 s2 ih1 ih2
 | mp b la h=>exact .mp b la (hρ _ _ h)
 | em A cap=>exact .em A cap
 | yl b la h=>exact .yl b la (hρ _ _ h)
inductive kY (R:C→Value→Prop):AV→Value→Prop where
 | any (x:Value):kY R .any x
 | c (c:C) (x:Value) (h:R c x):kY R (.c c) x
 | agg (cs:List C) (xs:Array Value) (hs:xs.size=cs.length) (h:∀ (i:Nat) (c:C),cs[i]? = some c→R c (xs.getD i undef)):kY R (.agg cs) (.agg xs)
 | tup (vs:List AV) (xs:Array Value) (hs:xs.size=vs.length) (h:∀ (i:Nat) (v:AV),vs[i]? = some v→kY R v (xs.getD i undef)):kY R (.tup vs) (.tuple xs)
theorem kY.mono {R R':C→Value→Prop} (hR:∀ c x,R c x→R' c x) {v:AV} {x:Value} (h:kY R v x):kY R' v x:=by
 induction h with
 | any x=>exact .any x
 | c c x h=>exact .c c x (hR _ _ h)
 | agg cs xs hs h=>exact .agg cs xs hs fun i c hc=>hR _ _ (h i c hc)
 | tup vs xs hs h ih=>exact .tup vs xs hs ih
inductive yM (ρ:nV) (w:World) (la:Pl):mU→Prop where
 | cells (ty:Nat) (cs:List C) (cur:Array Value) (hh:w.heap[la.b]? = some (.cells cur ty (0,0))) (ht:cur.size=la.tot) (hl:la.off+cs.length≤la.tot)
   (hf:∀ (i:Nat) (c:C),cs[i]? = some c→∃ x,cur[la.off+i]? = some x∧kO ρ c x):yM ρ w la (.cells ty cs)
 | ro (cs:List C) (hl:la.off+cs.length≤la.tot) (hf:∀ (i:Nat) (c:C),cs[i]? = some c→∃ x,w.cell? ⟨la.b,la.off+i,none⟩=some x∧kO ρ c x):yM ρ w la (.ro cs)
 | sit (s:ByteArray) (pos:Nat) (hh:w.heap[la.b]? = some (.stringIter s pos)) (h0:la.off=0):yM ρ w la (.sit s pos)
 | mp (es:List (Value×AV×Nat)) (clock:Nat) (xs:List MapEntry) (hh:w.heap[la.b]? = some (.map xs.toArray clock)) (hl:xs.length=es.length)
   (hf:∀ (i:Nat) (e:Value×AV×Nat) (x:MapEntry),es[i]? = some e→xs[i]? = some x→x.key=e.1∧x.born=e.2.2∧kY (kO ρ) e.2.1 x.val):yM ρ w la (.mp es clock)
 | mit (m since c0:Nat) (seen:Array Nat) (lm:Pl) (hm:ρ m=some lm) (hh:w.heap[la.b]? = some (.mapIter (some lm.b) since seen c0)) (h0:la.off=0):yM ρ w la (.mit m since c0 seen)
 | mcur (m n since c0:Nat) (seen:Array Nat) (lm:Pl) (hm:ρ m=some lm) (hh:w.heap[la.b]? = some (.mapIter (some lm.b) since seen c0)) (hb:seen.back? = some n) (h0:la.off=0):yM ρ w la (.mcur m n c0)
theorem yM.mono {ρ ρ':nV} {w w':World} {la:Pl} {k:mU} (hρ:ρ.le ρ') (hw:w'.heap[la.b]? = w.heap[la.b]?) (h:yM ρ w la k):yM ρ' w' la k:=by
 cases h with
 | cells ty cs cur hh ht hl hf=>exact .cells ty cs cur (hw.trans hh) ht hl fun i c hc=>let ⟨x,hx,hr⟩:=hf i c hc;⟨x,hx,hr.mono hρ⟩
 | ro cs hl hf=>exact .ro cs hl fun i c hc=>let ⟨x,hx,hr⟩:=hf i c hc;⟨x,by rw [← hx];simp only [World.cell?,hw],hr.mono hρ⟩
 | sit s pos hh h0=>exact .sit s pos (hw.trans hh) h0
 | mp es clock xs hh hl hf=>exact .mp es clock xs (hw.trans hh) hl fun i e x h1 h2=>let ⟨g1,g2,g3⟩:=hf i e x h1 h2;⟨g1,g2,g3.mono fun c x hc=>hc.mono hρ⟩
 | mit m since c0 seen lm hm hh h0=>exact .mit m since c0 seen lm (hρ _ _ hm) (hw.trans hh) h0
 | mcur m n since c0 seen lm hm hh hb h0=>exact .mcur m n since c0 seen lm (hρ _ _ hm) (hw.trans hh) hb h0
abbrev dA:=Nat→mU→Prop
def Tr.m (t:Tr mU):dA:=fun b k=>t.get b=some k
structure Ho where
 P:Program
 w0:World
 K:Nat→Prop
 n:Nat
 r0:nV
 n0:Nat
 top:Nat
 ds:List Deferred
 rd:Option Nat
structure Fr (K:Nat→Prop) (w0 w:World):Prop where
 os:w.os=w0.os
 tape:w.tape=w0.tape
 output:w.output=w0.output
 size:w0.heap.size≤w.heap.size
 block:∀ b,K b→w.heap[b]? = w0.heap[b]?
theorem Fr.next {K:Nat→Prop} {w0 w w':World} (h:Fr K w0 w) (ho:w'.os=w.os) (ht:w'.tape=w.tape) (hu:w'.output=w.output) (hs:w.heap.size≤w'.heap.size)
  (hb:∀ b,K b→w'.heap[b]? = w.heap[b]?):Fr K w0 w':=
 ⟨ho.trans h.os,ht.trans h.tape,hu.trans h.output,Nat.le_trans h.size hs,fun b h1=>(hb b h1).trans (h.block b h1)⟩
structure rR (K:Nat→Prop) (w0:World) (ρ:nV) (m:dA) (w:World):Prop where
 blk:∀ b k,m b k→∃ la,ρ b=some la∧yM ρ w la k
 own:∀ b k la,m b k→ρ b=some la→(k.isRo=false→¬ K la.b)∧(k.isRo=true→K la.b)∧la.b<w.heap.size
 inj:∀ b b' k k' la la',m b k→m b' k'→ρ b=some la→ρ b'=some la'→k.isRo=false→k'.isRo=false→la.b=la'.b→b=b'
 kept:∀ b,K b→b<w0.heap.size
 fr:Fr K w0 w
def aWO (ρ:nV) (lo hi:Nat):Prop:=∀ b,lo≤b→b<hi→ρ b=none
structure pU (ρ:nV) (lo hi:Nat) (ρ':nV):Prop where
 le:ρ.le ρ'
 out:∀ b,(b<lo∨hi≤b)→ρ' b=ρ b
theorem pU.refl (ρ:nV) (n:Nat):pU ρ n n ρ:=⟨nV.le_refl _,fun _ _=>rfl⟩
theorem pU.trans {ρ ρ' ρ'':nV} {a b c:Nat} (hab:a≤b) (hbc:b≤c) (h:pU ρ a b ρ') (g:pU ρ' b c ρ''):pU ρ a c ρ'':=
 ⟨nV.le_trans h.le g.le,fun x hx=>(g.out x (by omega)).trans (h.out x (by omega))⟩
theorem pU.free {ρ ρ':nV} {a b c:Nat} (h:pU ρ a b ρ') (hab:a≤b) (hf:aWO ρ a c):aWO ρ' b c:=fun x h1 h2=>(h.out x (.inr h1)).trans (hf x (by omega) h2)
def Dom (t:Tr mU) (lo hi:Nat) (t':Tr mU):Prop:=∀ b k',t'.get b=some k'→(∃ k,t.get b=some k)∨(lo≤b∧b<hi)
theorem Dom.refl (t:Tr mU) (n:Nat):Dom t n n t:=fun b k h=>.inl ⟨k,h⟩
theorem Dom.trans {t t' t'':Tr mU} {a b c:Nat} (hab:a≤b) (hbc:b≤c) (h:Dom t a b t') (g:Dom t' b c t''):Dom t a c t'':=fun x k hk=>by
 rcases g x k hk with ⟨k',h1⟩ | h1
 ·rcases h x k' h1 with h2 | h2
  ·exact .inl h2
  exact .inr (by omega)
 exact .inr (by omega)
structure jN (Γ:Ho) (ρ:nV) (st:AS) (a:Act) (w:World):Prop where
 defers:a.defers=Γ.ds
 size:a.tmps.size=Γ.n
 env:∀ i,kY (kO ρ) (st.get i) (a.tmps.getD i undef)
 m:rR Γ.K Γ.w0 ρ st.mem.m w
 base:pU Γ.r0 Γ.n0 st.nx ρ
 low:Γ.n0≤st.nx
 free:aWO ρ st.nx Γ.top
def Sat (Γ:Ho) (st:AS) (a:Act) (w:World):Prop:=∃ ρ,jN Γ ρ st a w
section
variable {Γ:Ho} {ρ ρ':nV} {st st':AS} {a:Act} {w w':World} {m:dA} {mem:Tr mU} {nx:Nat} {w0:World} {K:Nat→Prop}
theorem rR.world (h:rR K w0 ρ m w) (hh:w'.heap=w.heap) (ho:w'.os=w.os) (ht:w'.tape=w.tape) (hu:w'.output=w.output):rR K w0 ρ m w':=by
 refine ⟨fun b k hb=>?_,fun b k la hb hl=>?_,h.inj,h.kept,h.fr.next ho ht hu (by rw [hh];exact Nat.le_refl _) fun b _=>by rw [hh]⟩
 ·obtain ⟨la,h1,h2⟩:=h.blk b k hb
  exact ⟨la,h1,h2.mono (nV.le_refl _) (by rw [hh])⟩
 rw [hh];exact h.own b k la hb hl
theorem rR.sub {m':dA} (h:rR K w0 ρ m w) (hs:∀ b k,m' b k→m b k):rR K w0 ρ m' w:=
 ⟨fun b k hb=>h.blk b k (hs b k hb),fun b k la hb=>h.own b k la (hs b k hb),fun b b' k k' la la' h1 h2=>h.inj b b' k k' la la' (hs _ _ h1) (hs _ _ h2),h.kept,h.fr⟩
theorem rR.parted (h:rR K w0 ρ m w) {b b':Nat} {k k':mU} {la la':Pl} (h1:m b k) (h2:m b' k') (g1:ρ b=some la) (g2:ρ b'=some la') (r1:k.isRo=false) (hne:b≠b'):la.b≠la'.b:=by
 intro e
 cases hr:k'.isRo with
 | false=>exact hne (h.inj b b' k k' la la' h1 h2 g1 g2 r1 hr e)
 | true=>exact (h.own b k la h1 g1).1 r1 (e ▸ (h.own b' k' la' h2 g2).2.1 hr)
theorem jN.drew (h:jN Γ ρ st a w):jN Γ ρ st a w.drew:=⟨h.defers,h.size,h.env,h.m.world rfl rfl rfl rfl,h.base,h.low,h.free⟩
theorem jN.put (h:jN Γ ρ st a w) (d:Nat) (hd:d < Γ.n) {v:AV} {x:Value} (hv:kY (kO ρ) v x):jN Γ ρ (st.put d v) (a.put (some d) x) w:=by
 refine ⟨h.defers,?_,fun i=>?_,h.m,h.base,h.low,h.free⟩
 ·simp [Act.put,h.size]
 rw [get_put]
 split
 ·rename_i e
  subst e
  have:(a.put (some d) x).tmps.getD d undef=x:=by simp [Act.put,Array.getD_eq_getD_getElem?,h.size,hd]
  rw [this];exact hv
 rename_i e
 have:(a.put (some d) x).tmps.getD i undef=a.tmps.getD i undef:=by simp [Act.put,Array.getD_eq_getD_getElem?,Array.getElem?_setIfInBounds,e]
 rw [this];exact h.env i
theorem jN.putO (h:jN Γ ρ st a w) (d:Option Nat) (hd:∀ i,d=some i→i < Γ.n) {v:AV} {x:Value} (hv:kY (kO ρ) v x):jN Γ ρ (st.putO d v) (a.put d x) w:=by
 cases d with
 | none=>exact h
 | some d=>exact h.put d (hd d rfl) hv
theorem Lr (st:AS) (d:Option Nat) (v:AV):(st.putO d v).nx=st.nx:=by cases d<;>rfl
theorem F3 (st:AS) (d:Option Nat) (v:AV):(st.putO d v).mem=st.mem:=by cases d<;>rfl
theorem jN.grow (h:jN Γ ρ st a w) (hρ:pU ρ st.nx st'.nx ρ') (hle:st.nx≤st'.nx) (hm:rR Γ.K Γ.w0 ρ' st'.mem.m w') (he:st'.env=st.env):jN Γ ρ' st' a w':=
  ⟨h.defers, h.size, fun i => by
    have:st'.get i=st.get i:=by simp only [AS.get,he]
    rw [this];exact (h.env i).mono fun c x hc=>hc.mono hρ.le,hm,h.base.trans h.low hle hρ,Nat.le_trans h.low hle,hρ.free hle h.free⟩
theorem Ak (hn:ρ nx=none) (la:Pl):pU ρ nx (nx+1) (upd ρ nx la):=
  ⟨fun b l hl => by
    by_cases e:b=nx
    · rw [e,hn] at hl;cases hl
    · rw [uE _ _ _ _ e];exact hl,fun b hb=>uE _ _ _ _ (by omega)⟩
theorem rR.new (h:rR K w0 ρ m w) (hn:ρ nx=none) (k:mU) (la:Pl) (hk:yM (upd ρ nx la) w' la k) (hla:w.heap.size≤la.b∧la.b<w'.heap.size) (ho:w'.os=w.os) (ht:w'.tape=w.tape) (hu:w'.output=w.output)
  (hs:w.heap.size≤w'.heap.size) (hb:∀ b,b<w.heap.size→w'.heap[b]? = w.heap[b]?) {m':dA} (hm':∀ b k',m' b k'→(b=nx∧k'=k)∨(b≠nx∧m b k')) (hro:k.isRo=false:=by rfl):rR K w0 (upd ρ nx la) m' w':=by
 have hle:=(Ak hn la).le
 have hK:∀ b,K b→b<w.heap.size:=fun b hb=>Nat.lt_of_lt_of_le (h.kept b hb) h.fr.size
 refine ⟨fun b k' hb'=>?_,fun b k' l hb' hl=>?_,fun b b' k1 k2 l l' h1 h2 h3 h4 r1 r2 h5=>?_,h.kept,h.fr.next ho ht hu hs fun b hb'=>hb b (hK b hb')⟩
 ·rcases hm' b k' hb' with ⟨rfl,rfl⟩ | ⟨hne,hm⟩
  ·exact ⟨la,pW _ _ _,hk⟩
  obtain ⟨l,h1,h2⟩:=h.blk b k' hm
  exact ⟨l,hle _ _ h1,h2.mono hle (hb _ (h.own b k' l hm h1).2.2)⟩
 ·rcases hm' b k' hb' with ⟨rfl,rfl⟩ | ⟨hne,hm⟩
  ·rw [pW] at hl;injection hl with hl;subst hl
   exact ⟨fun _ hk=>by have:=hK _ hk;omega,fun hr=>(by rw [hro] at hr;cases hr),hla.2⟩
  rw [uE _ _ _ _ hne] at hl
  have:=h.own b k' l hm hl
  exact ⟨this.1,this.2.1,by have:=this.2.2;omega⟩
 rcases hm' b k1 h1 with ⟨rfl,rfl⟩ | ⟨hne,hm⟩<;>rcases hm' b' k2 h2 with ⟨rfl,rfl⟩ | ⟨hne',hm2⟩
 ·rfl
 ·rw [pW] at h3;injection h3 with h3;subst h3
  rw [uE _ _ _ _ hne'] at h4
  have:=(h.own b' k2 l' hm2 h4).2.2
  omega
 ·rw [pW] at h4;injection h4 with h4;subst h4
  rw [uE _ _ _ _ hne] at h3
  have:=(h.own b k1 l hm h3).2.2
  omega
 rw [uE _ _ _ _ hne] at h3
 rw [uE _ _ _ _ hne'] at h4
 exact h.inj b b' k1 k2 l l' hm hm2 h3 h4 r1 r2 h5
theorem rR.turn (h:rR K w0 ρ m w) (b:Nat) (k k':mU) (la:Pl) (hb:m b k) (hla:ρ b=some la) (hk:yM ρ w' la k') (ho:w'.os=w.os) (ht:w'.tape=w.tape) (hu:w'.output=w.output)
  (hs:w'.heap.size=w.heap.size) (hw:∀ i,i≠la.b→w'.heap[i]? = w.heap[i]?) {m':dA} (hm':∀ b2 k2,m' b2 k2→(b2=b∧k2=k')∨(b2≠b∧m b2 k2)) (hro:k.isRo=false:=by rfl) (hro':k'.isRo=false:=by rfl):rR K w0 ρ m' w':=by
 have hex:∀ b2 k2,m' b2 k2→∃ k3,m b2 k3∧k3.isRo=k2.isRo:=fun b2 k2 h2=>by
  rcases hm' b2 k2 h2 with ⟨rfl,rfl⟩ | ⟨_,hm⟩
  ·exact ⟨k,hb,by rw [hro,hro']⟩
  exact ⟨k2,hm,rfl⟩
 refine ⟨fun b2 k2 h2=>?_,fun b2 k2 l h2 hl=>?_,fun b1 b2 k1 k2 l l' h1 h2 h3 h4 r1 r2 h5=>?_,h.kept,h.fr.next ho ht hu (by omega) fun i hi=>hw i fun e=>?_⟩
 ·rcases hm' b2 k2 h2 with ⟨rfl,rfl⟩ | ⟨hne,hm⟩
  ·exact ⟨la,hla,hk⟩
  obtain ⟨l,h1,h3⟩:=h.blk b2 k2 hm
  exact ⟨l,h1,h3.mono (nV.le_refl _) (hw _ fun e=>h.parted hb hm hla h1 hro (fun e=>hne e.symm) e.symm)⟩
 ·obtain ⟨k3,h3,e⟩:=hex b2 k2 h2
  rw [hs,← e];exact h.own b2 k3 l h3 hl
 ·obtain ⟨k3,h6,e1⟩:=hex b1 k1 h1
  obtain ⟨k4,h7,e2⟩:=hex b2 k2 h2
  exact h.inj b1 b2 k3 k4 l l' h6 h7 h3 h4 (e1.trans r1) (e2.trans r2) h5
 rw [e] at hi
 exact (h.own b k la hb hla).1 hro hi
theorem rR.move (h:rR K w0 ρ m w) (hn:ρ nx=none) (b:Nat) (k:mU) (la la':Pl) (hb:m b k) (hla:ρ b=some la) (he:la'.b=la.b) (k':mU) (hk:yM (upd ρ nx la') w' la' k')
  (ho:w'.os=w.os) (ht:w'.tape=w.tape) (hu:w'.output=w.output) (hs:w'.heap.size=w.heap.size) (hw:∀ i,i≠la.b→w'.heap[i]? = w.heap[i]?)
  {m':dA} (hm':∀ b2 k2,m' b2 k2→(b2=nx∧k2=k')∨(b2≠nx∧b2≠b∧m b2 k2)) (hro:k.isRo=false:=by rfl) (hro':k'.isRo=false:=by rfl):rR K w0 (upd ρ nx la') m' w':=by
 have hle:=(Ak hn la').le
 refine ⟨fun b2 k2 h2=>?_,fun b2 k2 l h2 hl=>?_,fun b1 b2 k1 k2 l l' h1 h2 h3 h4 r1 r2 h5=>?_,h.kept,h.fr.next ho ht hu (by omega) fun i hi=>hw i fun e=>?_⟩
 ·rcases hm' b2 k2 h2 with ⟨rfl,rfl⟩ | ⟨hne,hne2,hm⟩
  ·exact ⟨la',pW _ _ _,hk⟩
  obtain ⟨l,h1,h3⟩:=h.blk b2 k2 hm
  exact ⟨l,hle _ _ h1,h3.mono hle (hw _ fun e=>h.parted hb hm hla h1 hro (fun e=>hne2 e.symm) e.symm)⟩
 ·rcases hm' b2 k2 h2 with ⟨rfl,rfl⟩ | ⟨hne,hne2,hm⟩
  ·rw [pW] at hl;injection hl with hl;subst hl
   have:=h.own b k la hb hla
   rw [he,hs];exact ⟨fun _=>this.1 hro,fun hr=>(by rw [hro'] at hr;cases hr),this.2.2⟩
  rw [uE _ _ _ _ hne] at hl
  rw [hs];exact h.own b2 k2 l hm hl
 ·rcases hm' b1 k1 h1 with ⟨rfl,rfl⟩ | ⟨hne,hne2,hm⟩<;>rcases hm' b2 k2 h2 with ⟨rfl,rfl⟩ | ⟨hne',hne2',hm2⟩
  ·rfl
  ·rw [pW] at h3;injection h3 with h3;subst h3
   rw [uE _ _ _ _ hne'] at h4
   exact absurd (h.inj b2 b k2 k l' la hm2 hb h4 hla r2 hro (h5.symm.trans he)) hne2'
  ·rw [pW] at h4;injection h4 with h4;subst h4
   rw [uE _ _ _ _ hne] at h3
   exact absurd (h.inj b1 b k1 k l la hm hb h3 hla r1 hro (h5.trans he)) hne2
  rw [uE _ _ _ _ hne] at h3
  rw [uE _ _ _ _ hne'] at h4
  exact h.inj b1 b2 k1 k2 l l' hm hm2 h3 h4 r1 r2 h5
 rw [e] at hi
 exact (h.own b k la hb hla).1 hro hi
theorem rR.frame {m1 m2:dA} (h:rR K w0 ρ m w) (hs:∀ b k,m1 b k→m b k) (hle:ρ.le ρ')
  (g:rR (fun x=>x<w.heap.size∧¬ ∃ b k la,m1 b k∧k.isRo=false∧ρ b=some la∧la.b=x) w ρ' m2 w') {m':dA} (hm':∀ b k,m' b k→(m2 b k∧(k.isRo=true→m b k))∨(m b k∧∀ k1,¬ m1 b k1)):rR K w0 ρ' m' w':=by
 have hkK:∀ b k la,m b k→(k.isRo=false→∀ k1,¬ m1 b k1)→ρ b=some la→la.b<w.heap.size∧¬ ∃ b k la',m1 b k∧k.isRo=false∧ρ b=some la'∧la'.b=la.b:=by
  intro b k la hb hn hl
  refine ⟨(h.own b k la hb hl).2.2,fun ⟨b1,k1,l1,h1,r1,h2,h3⟩=>?_⟩
  by_cases e:b1=b
  ·subst e
   rw [hl] at h2;injection h2 with h2;subst h2
   cases hr:k.isRo with
   | false=>exact hn hr k1 h1
   | true=>exact (h.own b1 k1 la (hs _ _ h1) hl).1 r1 ((h.own b1 k la hb hl).2.1 hr)
  exact h.parted (hs _ _ h1) hb h2 hl r1 e h3
 have hKin:∀ x,K x→x<w.heap.size∧¬ ∃ b k la',m1 b k∧k.isRo=false∧ρ b=some la'∧la'.b=x:=by
  intro x hx
  refine ⟨Nat.lt_of_lt_of_le (h.kept x hx) h.fr.size,fun ⟨b1,k1,l1,h1,r1,h2,h3⟩=>?_⟩
  rw [← h3] at hx
  exact (h.own b1 k1 l1 (hs _ _ h1) h2).1 r1 hx
 have hρ:∀ b k la,m b k→ρ' b=some la→ρ b=some la:=fun b k la hb hl=>by
  obtain ⟨l,h3,_⟩:=h.blk b k hb
  have:=hle _ _ h3
  rw [hl] at this
  injection this with this
  subst this
  exact h3
 refine ⟨fun b k hb=>?_,fun b k la hb hl=>?_,fun b b' k k' la la' h1 h2 h3 h4 r1 r2 h5=>?_,h.kept,?_⟩
 ·rcases hm' b k hb with ⟨h1,_⟩ | ⟨h1,h2⟩
  ·exact g.blk b k h1
  obtain ⟨la,h3,h4⟩:=h.blk b k h1
  exact ⟨la,hle _ _ h3,h4.mono hle (g.fr.block _ (hkK b k la h1 (fun _=>h2) h3))⟩
 ·rcases hm' b k hb with ⟨h1,h1'⟩ | ⟨h1,h2⟩
  ·obtain ⟨h3,h4,h5⟩:=g.own b k la h1 hl
   refine ⟨fun hr hk=>h3 hr (hKin _ hk),fun hr=>?_,h5⟩
   exact (h.own b k la (h1' hr) (hρ b k la (h1' hr) hl)).2.1 hr
  have h3:=hρ b k la h1 hl
  have h5:=h.own b k la h1 h3
  exact ⟨h5.1,h5.2.1,Nat.lt_of_lt_of_le h5.2.2 g.fr.size⟩
 ·rcases hm' b k h1 with ⟨g1,_⟩ | ⟨g1,g2⟩<;>rcases hm' b' k' h2 with ⟨g3,_⟩ | ⟨g3,g4⟩
  ·exact g.inj b b' k k' la la' g1 g3 h3 h4 r1 r2 h5
  ·have h7:=hρ b' k' la' g3 h4
   exact absurd (h5 ▸ hkK b' k' la' g3 (fun _=>g4) h7) ((g.own b k la g1 h3).1 r1)
  ·have h7:=hρ b k la g1 h3
   exact absurd (h5 ▸ hkK b k la g1 (fun _=>g2) h7) ((g.own b' k' la' g3 h4).1 r2)
  exact h.inj b b' k k' la la' g1 g3 (hρ b k la g1 h3) (hρ b' k' la' g3 h4) r1 r2 h5
 exact h.fr.next g.fr.os g.fr.tape g.fr.output g.fr.size fun x hx=>g.fr.block x (hKin x hx)
theorem E2 {k:mU}:∀ b k',(Tr.put (nx+1) mem nx (some k)).m b k'→(b=nx∧k'=k)∨(b≠nx∧mem.m b k'):=by
 intro b k' hb'
 unfold Tr.m at hb' ⊢
 rw [Tr.get_put _ _ _ _ _ (by omega)] at hb'
 split at hb'
 ·rename_i e;injection hb' with hb';exact .inl ⟨e.symm,hb'.symm⟩
 rename_i e;exact .inr ⟨fun e'=>e e'.symm,hb'⟩
theorem bAN {k:mU} {b0:Nat}:∀ b k',(Tr.put (nx+1) (Tr.put (b0+1) mem b0 none) nx (some k)).m b k'→(b=nx∧k'=k)∨(b≠nx∧b≠b0∧mem.m b k'):=by
 intro b k' hb'
 rcases E2 b k' hb' with h | ⟨h1,h2⟩
 ·exact .inl h
 unfold Tr.m at h2
 rw [Tr.get_put _ _ _ _ _ (by omega)] at h2
 split at h2
 ·cases h2
 rename_i e;exact .inr ⟨h1,fun e'=>e e'.symm,h2⟩
theorem bHp {b0:Nat}:∀ b k',(Tr.put (b0+1) mem b0 (none:Option mU)).m b k'→mem.m b k':=by
 intro b k' h2
 unfold Tr.m at h2 ⊢
 rw [Tr.get_put _ _ _ _ _ (by omega)] at h2
 split at h2
 ·cases h2
 exact h2
end
open Go.RowKit
open Go.Eng (Od aAh K4 sP Ti Le aM3 V4 need need_pos iE kN bget binV binBV unV Ae Hw)
inductive NK where
 | ptr
 | sl
 | mp
 | fn
inductive SK where
 | i
 | s
 | b
inductive lS where
 | mv (x:Od)
 | pick (c a b:Od)
 | alloc (ty:Nat) (zero:List Value)
 | box (ty:Nat) (x:Od)
 | build (zero:List Value) (parts:List (Nat×Nat×Od))
 | bslice (ty size len:Nat) (zero:List Value) (parts:List (Nat×Od))
 | load (agg:Bool) (size:Nat) (a:Od)
 | store (size:Nat) (a x:Od)
 | nilck (x:Od)
 | bin (op:BinOp) (x y:Od)
 | binB (op:BinOp) (x y:Od)
 | un (op:UnOp) (x:Od)
 | cvi (k:IntKind) (x:Od)
 | cvs (x:Od)
 | bstr (x:Od)
 | mkf (f:Nat) (first caps:List Od)
 | mksl (ty size bytes:Nat) (zero:List Value) (l c:Od)
 | slcS (x:Od) (lo hi:Option Od)
 | slc (size:Nat) (x:Od) (lo hi:Option Od)
 | fad (off:Nat) (x:Od)
 | fld (agg:Bool) (size off:Nat) (x:Od)
 | iad (size:Nat) (x i:Od)
 | ixs (x i:Od)
 | ixa (len:Nat) (agg:Bool) (size:Nat) (x i:Od)
 | ext (x:Od) (i:Nat)
 | len (str:Bool) (x:Od)
 | app (ty size bytes:Nat) (zero:List Value) (x y:Od)
 | call (f:Nat) (args:List Od)
 | callv (f:Od) (args:List Od)
 | cmpn (k:NK) (ne:Bool) (x y:Od)
 | mx (mn:Bool) (x y:Od)
 | iaa (len size:Nat) (x i:Od)
 | rngS (x:Od)
 | nxtS (x:Od)
 | rngM (x:Od)
 | nxtM (x:Od)
 | entM (x:Od)
 | mkm
 | look (str:Bool) (zero:List Value) (agg:Bool) (x k:Od) (ok:Bool)
 | mupd (str:Bool) (x k v:Od)
 | binA (ne:Bool) (ks:List SK) (x y:Od)
 | bad
def aK2 (P:Program) (t:TypeId):Option Bool:=match P.underlying t with
 | some (.int _)=>some false
 | some .string=>some true
 | _=>none
def bAB (P:Program) (t:TypeId):Option (Bool×List Value):=match P.info? t with
 | some i=>match i.zero with
  | some (.agg cs)=>if cs.toList.all Value.oneCell'=true then some (true,cs.toList) else none
  | some z=>if z.oneCell'=true then some (false,[z]) else none
  | none=>none
 | none=>none
def aS4 (k:NK) (op:BinOp) (x y:Od):lS:=match op with
 | .eql=>.cmpn k false x y
 | .neq=>.cmpn k true x y
 | _=>.bad
def bJE (P:Program) (t:TypeId):Option SK:=match P.underlying t with
 | some (.int _)=>some .i
 | some .string=>some .s
 | some .bool=>some .b
 | _=>none
def sks (P:Program):Nat→List Field→Option (List SK)
  | _,[]=>some []
  | i,f::r=>match bJE P f.type with
    | some k => if f.offset = i ∧ f.name ≠ "_" then (match sks P (i + 1) r with
      | some l=>some (k::l)
      | none=>none) else none
    | none=>none
def aZ1 (P:Program) (op:BinOp) (t:TypeId) (fs:List Field) (x y:Od):lS:=match sks P 0 fs with
  | some ks => if P.stoodInHeld t = false ∧ P.eqGuardType P.depth t = false then (match op with
    | .eql=>.binA false ks x y
    | .neq=>.binA true ks x y
    | _=>.bad) else .bad
  | none=>.bad
def lS.ofCall (P:Program) (c:Call):lS:=
  match c.callee with
  | .value (.func f)=>match Nat.blt f 1000000 with
    | true=>.call f (c.args.toList.map Od.of)
    | false=>.bad
  | .value (.tmp t)=>.callv (.t t) (c.args.toList.map Od.of)
  | .builtin .len =>
    match c.argTypes[0]?,c.args.toList with
    | some t,[x]=>match P.underlying t with
      | some .string=>.len true (Od.of x)
      | some (.slice _)=>.len false (Od.of x)
      | _=>.bad
    | _,_=>.bad
  | .builtin .max=>match c.args.toList with
    | [x,y]=>.mx false (Od.of x) (Od.of y)
    | _=>.bad
  | .builtin .min=>match c.args.toList with
    | [x,y]=>.mx true (Od.of x) (Od.of y)
    | _=>.bad
  | .builtin .append =>
    match c.argTypes.toList,c.args.toList with
    | [t, t'], [x, y] => if t = t' ∨ aM3 P t' = true then (match P.underlying t with
      | some (.slice e)=>match sP P e,Ti P e,K4 P e with
        | some s,some b,some z=>if 0<s then .app e s b z (Od.of x) (Od.of y) else .bad
        | _,_,_=>.bad
      | _=>.bad) else .bad
    | _,_=>.bad
  | _=>.bad
def lS.of (P:Program):Op→lS
 | .move x | .assign x=>.mv (Od.of x)
 | .pick c a b=>.pick (Od.of c) (Od.of a) (Od.of b)
 | .alloc e=>match K4 P e with
  | some z=>.alloc e z
  | none=>.bad
 | .box e x=>.box e (Od.of x)
 | .build t parts=>match P.underlying t,K4 P t with
  | some (.struct fs),some z=>match fs.toList.mapM (fun f=>(P.info? f.type).map fun i=>(f.offset,i.size)) with
   | some places=>match Le places parts.toList with
    | some l=>.build z l
    | none=>.bad
   | none=>.bad
  | some (.array _ e),some z=>match sP P e with
   | some s=>.build z (parts.toList.map fun p=>(p.1 * s,s,Od.of p.2))
   | none=>.bad
  | _,_=>.bad
 | .buildSlice t m parts=>match P.underlying t with
  | some (.slice e)=>match sP P e,K4 P e with
   | some s,some z=>if m * s≤16777216∧0<s then .bslice e s m z (parts.toList.map fun p=>(p.1,Od.of p.2)) else .bad
   | _,_=>.bad
  | _=>.bad
 | .load t x=>match aAh P t,sP P t with
  | some g,some s=>if g=true∨s=1 then .load g s (Od.of x) else .bad
  | _,_=>.bad
 | .store t x y=>match sP P t with
  | some s=>.store s (Od.of x) (Od.of y)
  | none=>.bad
 | .nilCheck x=>.nilck (Od.of x)
 | .binOp op t x y _=>match P.underlying t with
  | some (.int _) | some .string=>.bin op (Od.of x) (Od.of y)
  | some .bool=>.binB op (Od.of x) (Od.of y)
  | some (.pointer _)=>aS4 .ptr op (Od.of x) (Od.of y)
  | some (.slice _)=>aS4 .sl op (Od.of x) (Od.of y)
  | some (.map _ _)=>aS4 .mp op (Od.of x) (Od.of y)
  | some (.func _ _ _)=>aS4 .fn op (Od.of x) (Od.of y)
  | some (.struct fs)=>aZ1 P op t fs.toList (Od.of x) (Od.of y)
  | _=>.bad
 | .unOp op _ x=>.un op (Od.of x)
 | .convert s d x=>match P.underlying s,P.underlying d with
  | some (.int _),some (.int k)=>.cvi k (Od.of x)
  | some .string,some .string=>.cvs (Od.of x)
  | some (.slice e),some .string=>match P.underlying e with
   | some (.int .u8)=>.bstr (Od.of x)
   | _=>.bad
  | _,_=>.bad
 | .makeFunc (.func f) first captured=>match Nat.blt f 1000000 with
  | true=>.mkf f (first.toList.map Od.of) (captured.toList.map Od.of)
  | false=>.bad
 | .makeSlice t l c=>match P.underlying t with
  | some (.slice e)=>match sP P e,Ti P e,K4 P e with
   | some s,some b,some z=>if 0<s then .mksl e s b z (Od.of l) (Od.of c) else .bad
   | _,_,_=>.bad
  | _=>.bad
 | .slice t x lo hi none=>match P.underlying t with
  | some .string=>.slcS (Od.of x) (lo.map Od.of) (hi.map Od.of)
  | some (.slice e)=>match sP P e with
   | some s=>.slc s (Od.of x) (lo.map Od.of) (hi.map Od.of)
   | none=>.bad
  | _=>.bad
 | .fieldAddr t x i=>match P.underlying t with
  | some (.struct fs)=>match fs[i]? with
   | some f=>match sP P f.type with
    | some s=>if s=0 then .bad else .fad f.offset (Od.of x)
    | none=>.bad
   | none=>.bad
  | _=>.bad
 | .field t x i=>match P.underlying t with
  | some (.struct fs)=>match fs[i]? with
   | some f=>match aAh P f.type,sP P f.type with
    | some g,some s=>if g=true∨s=1 then .fld g s f.offset (Od.of x) else .bad
    | _,_=>.bad
   | none=>.bad
  | _=>.bad
 | .indexAddr t x i=>match P.underlying t with
  | some (.array n e)=>match sP P e with
   | some s=>if 1<n then .iaa n s (Od.of x) (Od.of i) else .bad
   | none=>.bad
  | some (.slice e)=>match sP P e with
   | some s=>.iad s (Od.of x) (Od.of i)
   | none=>.bad
  | _=>.bad
 | .range t x=>if aM3 P t then .rngS (Od.of x) else match P.underlying t with
  | some (.map _ _)=>.rngM (Od.of x)
  | _=>.bad
 | .next x true=>.nxtS (Od.of x)
 | .next x false=>.nxtM (Od.of x)
 | .entry x=>.entM (Od.of x)
 | .makeMap _ none=>.mkm
 | .lookup t x k ok=>match P.underlying t with
  | some (.map kt e)=>match aK2 P kt,bAB P e with
   | some str,some (g,z)=>.look str z g (Od.of x) (Od.of k) ok
   | _,_=>.bad
  | _=>.bad
 | .mapUpdate t m k x | .insert t m k x=>match P.underlying t with
  | some (.map kt _)=>match aK2 P kt with
   | some str=>.mupd str (Od.of m) (Od.of k) (Od.of x)
   | none=>.bad
  | _=>.bad
 | .index t x i=>match P.underlying t with
  | some .string=>.ixs (Od.of x) (Od.of i)
  | some (.array n e)=>match aAh P e,sP P e with
   | some g,some s=>if g=true∨s=1 then .ixa n g s (Od.of x) (Od.of i) else .bad
   | _,_=>.bad
  | _=>.bad
 | .extract x i=>.ext (Od.of x) i
 | .call c=>lS.ofCall P c
 | _=>.bad
def avk:Value→AV
 | .agg _=>.any
 | .tuple _=>.any
 | .bool b=>.c (.v (.bool b))
 | .int k n=>.c (.v (.int k n))
 | .string s=>.c (.v (.string s))
 | .slice a l c=>.c (.v (.slice a l c))
 | v=>.c (.v v)
def AS.ev (st:AS):Od→AV
 | .t i=>st.get i
 | .k v=>avk v
 | .f f=>match Nat.blt f 1000000 with
  | true=>.c (.fn f [] [])
  | false=>.any
 | .bad=>.any
def J6:List UInt8→List UInt8→Bool
 | [],[]=>true
 | a::l,b::r=>match Nat.beq a.toNat b.toNat with
  | true=>J6 l r
  | false=>false
 | _,_=>false
theorem D5 (l r:List UInt8):J6 l r=(l == r):=by
 induction l generalizing r with
 | nil=>cases r<;>rfl
 | cons a l ih =>
  cases r with
  | nil=>rfl
  | cons b r =>
   simp only [J6,List.cons_beq_cons]
   cases h:Nat.beq a.toNat b.toNat with
   | true =>
    have:a=b:=UInt8.toNat_inj.1 (Nat.eq_of_beq_eq_true h)
    subst this
    simp [ih]
   | false =>
    have:a≠b:=fun e=>by subst e;simp at h
    simp [this]
def bPS (s:ByteArray) (l h:Nat):ByteArray:=⟨((s.data.toList.take h).drop l).toArray⟩
def bNL (a b:ByteArray):ByteArray:=⟨(a.data.toList++b.data.toList).toArray⟩
theorem bKF (s:ByteArray) (l h:Nat):bPS s l h=s.extract l h:=by
 apply ByteArray.ext
 apply Array.ext'
 simp [bPS,List.extract_eq_take_drop,List.drop_take]
theorem bJV (a b:ByteArray):bNL a b=a++b:=by
 apply ByteArray.ext
 apply Array.ext'
 simp [bNL]
def bOF (op:BinOp) (a b:ByteArray):Option Value:=match op with
 | .add=>need (a.size+b.size≤9223372036854775807) (some (.string (bNL a b)))
 | .eql=>some (.bool (J6 a.data.toList b.data.toList))
 | .neq=>some (.bool (!(J6 a.data.toList b.data.toList)))
 | .lss=>some (.bool (Op.bytesLess a.data.toList b.data.toList))
 | .leq=>some (.bool (Op.bytesLess a.data.toList b.data.toList || J6 a.data.toList b.data.toList))
 | .gtr=>some (.bool (!(Op.bytesLess a.data.toList b.data.toList || J6 a.data.toList b.data.toList)))
 | .geq=>some (.bool (!(Op.bytesLess a.data.toList b.data.toList)))
 | _=>none
def pS (op:BinOp) (u v:Value):Option Value:=match u,v with
 | .string a,.string b=>bOF op a b
 | u,v=>binV op u v
theorem bAd {op:BinOp} {u v r:Value} (h:pS op u v=some r):binV op u v=some r:=by
 unfold pS at h
 split at h
 ·rename_i a b
  cases op<;>simp only [bOF,D5,bJV,← ByteArray.toList_eq] at h<;>first | exact h | cases h
 exact h
def unW:UnOp→Value→Option Value
 | .xor,.int k n=>some (.int k (k.wrap (BitVec.ofInt k.bits (if k.signed then -1 else k.max) ^^^ BitVec.ofInt k.bits n).toNat))
 | op,u=>unV op u
def AV.bool? : AV→Option Bool
 | .c (.v (.bool b))=>some b
 | _=>none
def AV.val? : AV→Option Value
 | .c (.v x)=>some x
 | _=>none
def AV.int? : AV→Option Int
 | .c (.v (.int _ n))=>some n
 | _=>none
def AV.cells? : AV→Option (List C)
 | .c x=>some [x]
 | .agg cs=>some cs
 | _=>none
def I0 (agg:Bool) (cs:List C):AV:=
 if agg=true then .agg cs else match cs with
  | [c]=>.c c
  | _=>.any
def D3 (x:Value):AV:=.c (.v x)
def V0 (st:AS):List C→List (Nat×Nat×Od)→Option (List C)
 | cs,[]=>some cs
 | cs,(off,size,x)::r=>match (st.ev x).cells? with
  | some ds=>need (ds.length=size∧off+size≤cs.length) (V0 st (kN cs off ds) r)
  | none=>none
def I2 (st:AS):List Od→Option (List (Bool×List C))
 | []=>some []
 | x::r=>match st.ev x,I2 st r with
  | .c c,some l=>some ((false,[c])::l)
  | .agg cs,some l=>some ((true,cs)::l)
  | _,_=>none
def bnd (st:AS) (o:Option Od) (dflt:Nat):Option Int:=
 match o with
 | none=>some dflt
 | some x=>(st.ev x).int?
def AS.blk (st:AS) (b:Nat):Option (List C):=match st.mem.get b with
 | some (.cells _ cs)=>some cs
 | some (.ro cs)=>some cs
 | _=>none
def AS.read (st:AS) (b o n:Nat):Option (List C):=match st.blk b with
 | some cs=>need (o+n≤cs.length) (some ((cs.drop o).take n))
 | none=>none
def aS8:NK→AV→Option Bool
 | .ptr,.c (.v (.pointer none))=>some true
 | .sl,.c (.v (.slice none _ _))=>some true
 | .mp,.c (.v (.map none))=>some true
 | .fn,.c (.v .nilFunc)=>some true
 | .ptr,.c (.ptr _ _)=>some false
 | .sl,.c (.sl _ _ _ _)=>some false
 | .sl,.c .em=>some false
 | .fn,.c (.fn _ _ _)=>some false
 | .mp,.c (.mp _)=>some false
 | _,_=>none
def eqA:List SK→List C→List C→Option Bool
  | [],_,_=>some true
  | .i :: ks, .v (.int k a) :: cs, .v (.int k' b) :: ds => if k = k' then (match decide (a = b) with
    | true=>eqA ks cs ds
    | false=>some false) else none
  | .s::ks,.v (.string a)::cs,.v (.string b)::ds=>match J6 a.data.toList b.data.toList with
    | true=>eqA ks cs ds
    | false=>some false
  | .b::ks,.v (.bool a)::cs,.v (.bool b)::ds=>match a == b with
    | true=>eqA ks cs ds
    | false=>some false
  | _,_,_=>none
def AS.ment (st:AS):AV→Option (List (Value×AV×Nat))
 | .c (.v (.map none))=>some []
 | .c (.mp b)=>match st.mem.get b with
  | some (.mp es _)=>some es
  | _=>none
 | _=>none
def aEs:Bool→Value→Value→Option Bool
 | false,.int k a,.int k' b=>if k=k' then some (a == b) else none
 | true,.string a,.string b=>some (J6 a.data.toList b.data.toList)
 | _,_,_=>none
def Kz (str:Bool) (key:Value):List (Value×AV×Nat)→Option (Option AV)
 | []=>some none
 | (k,v,_)::es=>match aEs str key k with
  | some true=>some (some v)
  | some false=>Kz str key es
  | none=>none
def aF8 (st:AS) (str:Bool) (zero:List Value) (agg:Bool) (x k:Od) (ok:Bool):Option AV:=
 match (st.ev k).val? with
  | some key=>match st.ment (st.ev x) with
   | some es=>match Kz str key es with
    | some r=>match ok with
     | true=>match r with
      | some v=>some (.tup [v,D3 (.bool true)])
      | none=>some (.tup [I0 agg (zero.map fun v=>.v v),D3 (.bool false)])
     | false=>match r with
      | some v=>some v
      | none=>some (I0 agg (zero.map fun v=>.v v))
    | none=>none
   | none=>none
  | none=>none
def bQ (i:lS) (st:AS):Option AV:=
  match i with
  | .mv x=>some (st.ev x)
  | .pick c a b=>match (st.ev c).bool? with
    | some t=>some (if t=true then st.ev a else st.ev b)
    | none=>none
  | .build zero parts=>match V0 st (zero.map fun v=>.v v) parts with
    | some cs=>some (.agg cs)
    | none=>none
  | .load agg size x=>match st.ev x with
    | .c (.ptr b o)=>match st.read b o size with
      | some cs=>some (I0 agg cs)
      | none=>none
    | _=>none
  | .nilck x=>match st.ev x with
    | .c (.ptr b o)=>some (.c (.ptr b o))
    | .c (.fn f us vs)=>some (.c (.fn f us vs))
    | _=>none
  | .bin op x y=>match (st.ev x).val?,(st.ev y).val? with
    | some u,some v=>match pS op u v with
      | some r=>some (D3 r)
      | none=>none
    | _,_=>none
  | .binB op x y=>match (st.ev x).val?,(st.ev y).val? with
    | some u,some v=>match binBV op u v with
      | some r=>some (D3 r)
      | none=>none
    | _,_=>none
  | .un op x=>match (st.ev x).val? with
    | some u=>match unW op u with
      | some r=>some (D3 r)
      | none=>none
    | none=>none
  | .cvi k x=>match (st.ev x).int? with
    | some n=>some (D3 (.int k (k.wrap n)))
    | none=>none
  | .cvs x=>match (st.ev x).val? with
    | some (.string s)=>some (D3 (.string s))
    | _=>none
  | .mkf f first caps=>match I2 st first,I2 st caps with
    | some us,some cs=>some (.c (.fn f us cs))
    | _,_=>none
  | .slcS x lo hi=>match (st.ev x).val? with
    | some (.string s)=>match bnd st lo 0,bnd st hi s.size with
      | some l,some h=>need (0≤l∧l≤h∧h≤s.size) (some (D3 (.string (bPS s l.toNat h.toNat))))
      | _,_=>none
    | _=>none
  | .slc size x lo hi=>match st.ev x with
    | .c (.sl b o n s)=>match bnd st lo 0,bnd st hi n with
      | some l,some h=>need (s=size∧0≤l∧l≤h∧h≤n) (some (if l=0 then .c (.sl b o (h.toNat - l.toNat) s) else if l<n then .c (.sl b (o+l.toNat * s) (h.toNat - l.toNat) s) else .c .em))
      | _,_=>none
    | .c (.v (.slice none 0 0))=>match bnd st lo 0,bnd st hi 0 with
      | some l,some h=>need (0=l∧h=0) (some (.c (.v (.slice none 0 0))))
      | _,_=>none
    | .c .em=>match bnd st lo 0,bnd st hi 0 with
      | some l,some h=>need (0=l∧h=0) (some (.c .em))
      | _,_=>none
    | _=>none
  | .fad off x=>match st.ev x with
    | .c (.ptr b o)=>some (.c (.ptr b (o+off)))
    | _=>none
  | .fld agg size off x=>match st.ev x with
    | .agg cs=>need (off+size≤cs.length) (some (I0 agg ((cs.drop off).take size)))
    | _=>none
  | .iad size x i=>match st.ev x,(st.ev i).int? with
    | .c (.sl b o n s),some k=>need (s=size∧0≤k∧k<n) (some (.c (.ptr b (o+k.toNat * s))))
    | _,_=>none
  | .ixs x i=>match (st.ev x).val?,(st.ev i).int? with
    | some (.string s),some k=>need (0≤k∧k<s.size) (some (D3 (.int .u8 (bget s k.toNat).toNat)))
    | _,_=>none
  | .ixa len agg size x i=>match st.ev x,(st.ev i).int? with
    | .agg cs,some k=>need (0≤k∧k<len∧len * size=cs.length) (some (I0 agg ((cs.drop (k.toNat * size)).take size)))
    | _,_=>none
  | .ext x i=>match st.ev x with
    | .tup vs=>vs[i]?
    | _=>none
  | .cmpn k ne x y=>match aS8 k (st.ev x),aS8 k (st.ev y) with
    | some a,some b=>match a || b with
      | true=>some (D3 (.bool ((a && b) != ne)))
      | false=>none
    | _,_=>none
  | .binA ne ks x y=>match st.ev x,st.ev y with
    | .agg cs,.agg ds=>match eqA ks cs ds with
      | some b=>some (D3 (.bool (b != ne)))
      | none=>none
    | _,_=>none
  | .mx mn x y=>match (st.ev x).val?,(st.ev y).val? with
    | some (.int k a), some (.int k' b) => need (k = k') (some (D3 (.int k (match mn with
      | false=>if b > a then b else a
      | true=>if b<a then b else a))))
    | _,_=>none
  | .iaa len size x i=>match st.ev x,(st.ev i).int? with
    | .c (.ptr b o),some k=>need (0≤k∧k<len) (some (.c (.ptr b (o+k.toNat * size))))
    | _,_=>none
  | .len true x=>match (st.ev x).val? with
    | some (.string s)=>some (D3 (.int .i64 s.size))
    | _=>none
  | .len false x=>match st.ev x with
    | .c (.v (.slice _ n _))=>some (D3 (.int .i64 n))
    | .c (.sl _ _ n _)=>some (D3 (.int .i64 n))
    | .c .em=>some (D3 (.int .i64 0))
    | _=>none
  | _=>none
def aN9 (str:Bool) (key:Value) (v:AV) (clock:Nat):List (Value×AV×Nat)→Option (List (Value×AV×Nat)×Nat)
 | []=>some ([(key,v,clock)],clock+1)
 | (k,v',n)::es=>match aEs str key k with
  | some true=>some ((k,v,n)::es,clock)
  | some false=>match aN9 str key v clock es with
   | some (es',c)=>some ((k,v',n)::es',c)
   | none=>none
  | none=>none
def AS.new (st:AS) (k:mU):AS:=⟨st.env,Tr.put (st.nx+1) st.mem st.nx (some k),st.nx+1⟩
def AS.setB (st:AS) (b:Nat) (k:mU):AS:=⟨st.env,Tr.put (b+1) st.mem b (some k),st.nx⟩
def AS.moveB (st:AS) (b:Nat) (k:mU):AS:=⟨st.env,Tr.put (st.nx+1) (Tr.put (b+1) st.mem b none) st.nx (some k),st.nx+1⟩
def AS.row (st:AS) (size:Nat):AV→Option (Nat×List C)
 | .c (.sl b o n s)=>match st.read b o (n * s) with
  | some cs=>need (s=size) (some (n,cs))
  | none=>none
 | .c (.v (.slice none 0 0))=>some (0,[])
 | .c .em=>some (0,[])
 | .c (.v (.string s))=>need (size=1) (some (s.size,s.data.toList.map fun b=>.v (.int .u8 b.toNat)))
 | _=>none
def zB (st:AS) (size:Nat):List C→List (Nat×Od)→Option (List C)
 | cs,[]=>some cs
 | cs,(i,x)::r=>match (st.ev x).cells? with
  | some ds=>need (ds.length=size∧i * size+size≤cs.length) (zB st size (kN cs (i * size) ds) r)
  | none=>none
def Ld (n:Nat) (z:List C):List C:=match n with
 | 0=>[]
 | n+1=>z++Ld n z
def eP (i:lS) (st:AS):Option (AS×AV):=
 match i with
 | .alloc ty zero=>some (st.new (.cells ty (zero.map fun v=>.v v)),.c (.ptr st.nx 0))
 | .box ty x=>match (st.ev x).cells? with
  | some cs=>some (st.new (.cells ty cs),.c (.ptr st.nx 0))
  | none=>none
 | .bslice ty size len zero parts=>match zB st size (Ld len (zero.map fun v=>.v v)) parts with
  | some cs=>some (st.new (.cells ty cs),.c (.sl st.nx 0 len size))
  | none=>none
 | .mksl ty size bytes zero l c=>match (st.ev l).int?,(st.ev c).int? with
  | some n,some m=>need (0≤n∧n≤m∧m * bytes≤140737488355328∧m≤9223372036854775807) (some (st.new (.cells ty (Ld n.toNat (zero.map fun v=>.v v))),.c (.sl st.nx 0 n.toNat size)))
  | _,_=>none
 | .store size x y=>match st.ev x,(st.ev y).cells? with
  | .c (.ptr b o),some ds=>match st.mem.get b with
   | some (.cells ty cs)=>need (ds.length=size∧o+size≤cs.length) (some (st.setB b (.cells ty (kN cs o ds)),.any))
   | _=>none
  | _,_=>none
 | .app ty size bytes zero x y=>match st.row size (st.ev y) with
  | none=>none
  | some (0,_)=>match st.ev x with
   | .c (.v (.slice none 0 0))=>some (st,.c (.v (.slice none 0 0)))
   | .c (.sl b o n s)=>some (st,.c (.sl b o n s))
   | _=>none
  | some (m,news)=>match st.ev x with
   | .c (.v (.slice none 0 0))=>need (m * bytes≤140737488355328∧m≤9223372036854775807∧0<m) (some (st.new (.cells ty news),.c (.sl st.nx 0 m size)))
   | .c (.sl b o n s)=>match st.mem.get b with
    | some (.cells ty' cs)=>need (o+n * s=cs.length∧ty'=ty∧s=size∧(n+m) * bytes≤140737488355328∧n+m≤9223372036854775807)
      (some (st.moveB b (.cells ty (cs.drop o++news)),.c (.sl st.nx 0 (n+m) size)))
    | _=>none
   | _=>none
 | .rngS x=>match (st.ev x).val? with
  | some (.string s)=>some (st.new (.sit s 0),.c (.ptr st.nx 0))
  | _=>none
 | .nxtS x=>match st.ev x with
  | .c (.ptr b 0)=>match st.mem.get b with
   | some (.sit s pos)=>match Nat.blt pos s.size with
    | true=>match Nat.blt (bget s pos).toNat 128 with
     | true=>some (st.setB b (.sit s (pos+1)),.tup [D3 (.bool true),D3 (.int .i64 pos),D3 (.int .i32 (bget s pos).toNat)])
     | false=>none
    | false=>some (st,.tup [D3 (.bool false)])
   | _=>none
  | _=>none
 | .rngM x=>match st.ev x with
  | .c (.mp b)=>match st.mem.get b with
   | some (.mp _ clock)=>some (st.new (.mit b clock clock #[]),.c (.ptr st.nx 0))
   | _=>none
  | _=>none
 | .entM x=>match st.ev x with
  | .c (.ptr b 0)=>match st.mem.get b with
   | some (.mcur m n c)=>match st.mem.get m with
    | some (.mp es clock)=>match es.find? (fun e=>e.2.2 == n) with
     | some e=>need (e.1.oneCell'=true∧clock=c) (some (st,.tup [.c (.v e.1),e.2.1]))
     | none=>none
    | _=>none
   | _=>none
  | _=>none
 | .look str zero agg x k ok=>match aF8 st str zero agg x k ok with
  | some v=>some (st,v)
  | none=>none
 | .mkm=>some (st.new (.mp [] 0),.c (.mp st.nx))
 | .mupd str x k v=>match st.ev x,(st.ev k).val? with
  | .c (.mp b),some key=>match st.mem.get b with
   | some (.mp es clock)=>match aN9 str key (st.ev v) clock es with
    | some (es',c)=>some (st.setB b (.mp es' c),.any)
    | none=>none
   | _=>none
  | _,_=>none
 | _=>none
open Go.RowKit
open Go.Eng (Od aAh K4 sP Ti Le aM3 V4 need need_pos iE kN bget binV binBV unV Ae Hw aDW aGs uF nK run_binV Wl aB6 wH aFY aGG Gi setL_length Bi Wc F8 kJ)
section inv
variable {ρ:nV}
theorem kY.cInv {R:C→Value→Prop} {c:C} {x:Value} (h:kY R (.c c) x):R c x:=by cases h;assumption
theorem kO.vEq {u x:Value} (h:kO ρ (.v u) x):x=u:=by cases h;rfl
theorem kY.valInv {v:AV} {u x:Value} (h:kY (kO ρ) v x) (hv:v.val? = some u):x=u:=by
 unfold AV.val? at hv
 split at hv
 ·injection hv with hv;subst hv;exact h.cInv.vEq
 cases hv
theorem kY.boolInv {v:AV} {b:Bool} {x:Value} (h:kY (kO ρ) v x) (hv:v.bool? = some b):x=.bool b:=by
 unfold AV.bool? at hv
 split at hv
 ·injection hv with hv;subst hv;exact h.cInv.vEq
 cases hv
theorem kY.intInv {v:AV} {n:Int} {x:Value} (h:kY (kO ρ) v x) (hv:v.int? = some n):∃ k,x=.int k n:=by
 unfold AV.int? at hv
 split at hv
 ·injection hv with hv;subst hv;exact ⟨_,h.cInv.vEq⟩
 cases hv
theorem kY.cellsInv {v:AV} {cs:List C} {x:Value} (h:kY (kO ρ) v x) (hv:v.cells? = some cs) :
  x.cells.size=cs.length∧∀ (i:Nat) (c:C),cs[i]? = some c→kO ρ c (x.cells.getD i undef):=by
 cases h with
 | any=>simp [AV.cells?] at hv
 | c c x h =>
  simp [AV.cells?] at hv
  subst hv
  rw [aDW h.one]
  refine ⟨rfl,fun i c' hc=>?_⟩
  cases i with
  | zero=>simp at hc;subst hc;exact h
  | succ i=>simp at hc
 | agg cs' xs hs h =>
  simp [AV.cells?] at hv
  subst hv
  exact ⟨hs,h⟩
 | tup=>simp [AV.cells?] at hv
theorem kO.ptrInv {b o:Nat} {x:Value} (h:kO ρ (.ptr b o) x):∃ la,ρ b=some la∧x=.pointer (some ⟨la.b,la.off+o,none⟩):=by
 cases h with | ptr _ _ la hla=>exact ⟨la,hla,rfl⟩
theorem kO.slInv {b o n s:Nat} {x:Value} (h:kO ρ (.sl b o n s) x) :
  ∃ la cap,ρ b=some la∧x=.slice (some ⟨la.b,la.off+o,none⟩) n cap∧la.off+o+cap * s≤la.tot∧n≤cap∧cap≤maxLen:=by
 cases h with | sl _ _ _ _ cap la h hb hn hm=>exact ⟨la,cap,h,rfl,hb,hn,hm⟩
theorem kO.emInv {x:Value} (h:kO ρ .em x):∃ A cap,x=.slice (some A) 0 cap:=by cases h with | em A cap=>exact ⟨A,cap,rfl⟩
end inv
section
variable {Γ:Ho} {ρ:nV} {st:AS} {a:Act} {w:World}
theorem bI9 {R:C→Value→Prop} (hR:∀ x:Value,x.oneCell'=true→R (.v x) x) (x:Value):kY R (avk x) x:=by
 unfold avk
 split<;>first | exact .any _ | exact .c _ _ (hR _ rfl) | skip
 refine .c _ _ (hR _ ?_)
 cases x<;>first | rfl | (exfalso;rename_i h1 _ _ _ _ _;first | exact h1 _ rfl | skip) | skip
 all_goals simp_all
theorem jN.ev (h:jN Γ ρ st a w) (x:Operand):kY (kO ρ) (st.ev (Od.of x)) (a.eval x):=by
 cases x with
 | tmp i=>exact h.env i
 | const v=>exact bI9 (fun x hx=>.v x hx) v
 | func f =>
  show kY (kO ρ) (match Nat.blt f 1000000 with | true=>AV.c (.fn f [] []) | false=>.any) _
  cases h0:Nat.blt f 1000000 with
  | true=>exact .c _ _ (.fn f [] [] #[] #[] h0 rfl rfl (by simp) (by simp) (by simp) (by simp))
  | false=>exact .any _
 | global g=>exact .any _
def aZe:Op→Bool
 | .load _ _=>false
 | _=>true
def yU (Γ:Ho) (ρ:nV) (o:Oper) (a:Act) (w:World) (v:AV):Prop:=
 ∃ x,(∀ W,(aZe o.op=true∨aGs w W)→(execOp a.eval o).run Γ.P W=.ok (.value x) W)∧kY (kO ρ) v x
theorem yU.mk' {o:Oper} {x:Value} {v:AV} (hr:∀ W,(aZe o.op=true∨aGs w W)→(execOp a.eval o).run Γ.P W=.ok (.value x) W) (hv:kY (kO ρ) v x):yU Γ ρ o a w v:=⟨x,hr,hv⟩
theorem aSS {R:C→Value→Prop} {g:Bool} {size:Nat} (hok:g=true∨size=1) {cs:List C} {xs:List Value} (hl:xs.length=size) (hcl:cs.length=size)
    (h:∀ (i:Nat) (c:C),cs[i]? = some c→R c (xs.getD i undef)):kY R (I0 g cs) (if g=true then .agg xs.toArray else xs.getD 0 undef):=by
  cases g
  · have h1 : size = 1 := by simpa using hok
    have h0:cs.length=1:=by omega
    match cs,h0 with
    | [c],_=>exact .c _ _ (h 0 c (by simp))
  · refine .agg cs _ (by simp; omega) fun i c hc => ?_
    simpa [Array.getD_eq_getD_getElem?] using h i c hc
theorem jN.read (h:jN Γ ρ st a w) {b o n:Nat} {cs:List C} (hr:st.read b o n=some cs) :
  ∃ (la:Pl) (xs:List Value),ρ b=some la∧cs.length=n∧xs.length=n∧(∀ j u,xs[j]? = some u→w.cell? ⟨la.b,la.off+o+j,none⟩=some u)∧(∀ (i:Nat) (c:C),cs[i]? = some c→kO ρ c (xs.getD i undef))∧la.off+o+n≤la.tot:=by
 unfold AS.read AS.blk at hr
 split at hr
 case h_2=>cases hr
 rename_i cs0 hm
 split at hm
 case h_3=>cases hm
 case h_2 =>
  rename_i cs1 hb
  injection hm with hm
  subst hm
  obtain ⟨hle,hr⟩:=iE hr
  injection hr with hr
  subst hr
  obtain ⟨la,hla,hrep⟩:=h.m.blk b _ hb
  cases hrep with
  | ro _ hl hf =>
   refine ⟨la,(List.range n).map fun j=>(w.cell? ⟨la.b,la.off+o+j,none⟩).getD undef,hla,by simp;omega,by simp,fun j u hu=>?_,fun i c hc=>?_,by omega⟩
   ·rw [List.getElem?_map] at hu
    have hj:j<n:=by
     rcases Nat.lt_or_ge j n with hj | hj
     ·exact hj
     rw [List.getElem?_eq_none (by simpa using hj)] at hu;cases hu
    rw [List.getElem?_range hj] at hu
    simp only [Option.map_some,Option.some.injEq] at hu
    obtain ⟨x,hx,_⟩:=hf (o+j) _ (List.getElem?_eq_getElem (by omega))
    rw [← Nat.add_assoc] at hx
    rw [hx] at hu ⊢
    exact congrArg some hu
   rw [List.getElem?_take] at hc
   split at hc
   ·rename_i hlt
    rw [List.getElem?_drop] at hc
    obtain ⟨x,hx,hxr⟩:=hf _ c hc
    rw [← Nat.add_assoc] at hx
    simp only [List.getD_eq_getElem?_getD,List.getElem?_map,List.getElem?_range hlt,Option.map_some,Option.getD_some,hx]
    exact hxr
   cases hc
 rename_i ty cs1 hb
 injection hm with hm
 subst hm
 obtain ⟨hle,hr⟩:=iE hr
 injection hr with hr
 subst hr
 obtain ⟨la,hla,hrep⟩:=h.m.blk b _ hb
 cases hrep with
 | cells _ _ cur hh ht hl hf =>
  refine ⟨la,(cur.toList.drop (la.off+o)).take n,hla,by simp;omega,by simp;omega,fun j u hu=>?_,fun i c hc=>?_,by omega⟩
  ·rw [List.getElem?_take] at hu
   split at hu
   ·rw [List.getElem?_drop] at hu
    rw [cell_of_row w la.b _ cur ty (0,0) hh]
    simpa using hu
   cases hu
  rw [List.getElem?_take] at hc
  split at hc
  ·rename_i hlt
   rw [List.getElem?_drop] at hc
   obtain ⟨x,hx,hxr⟩:=hf _ c hc
   have:((cur.toList.drop (la.off+o)).take n).getD i undef=x:=by
    simp only [List.getD_eq_getElem?_getD,List.getElem?_take,hlt,if_true,List.getElem?_drop,Array.getElem?_toList,Nat.add_assoc]
    rw [hx];rfl
   rw [this];exact hxr
  cases hc
theorem aXW {o:Oper} {x:Operand} (ho:o.op=.move x∨o.op=.assign x) (h:jN Γ ρ st a w):yU Γ ρ o a w (st.ev (Od.of x)):=by
 refine .mk' (x:=a.eval x) (fun W hW=>?_) (h.ev x)
 rcases ho with ho | ho<;>simp [execOp,ho]
theorem bFr {o:Oper} {c x y:Operand} (ho:o.op=.pick c x y) {t:Bool} (hb:(st.ev (Od.of c)).bool? = some t) (h:jN Γ ρ st a w) :
  yU Γ ρ o a w (if t=true then st.ev (Od.of x) else st.ev (Od.of y)):=by
 have hc:=(h.ev c).boolInv hb
 refine .mk' (x:=if t=true then a.eval x else a.eval y) (fun W hW=>?_) ?_
 ·simp [execOp,ho,hc,asBool]
 cases t
 ·exact h.ev y
 exact h.ev x
theorem bE9 {o:Oper} {t:TypeId} {y:Operand} {g:Bool} {size:Nat} (ho:o.op=.load t y) (hg:aAh Γ.P t=some g) (hsz:sP Γ.P t=some size) (hok:g=true∨size=1) {v:AV} (h:jN Γ ρ st a w)
  (hs:bQ (.load g size (Od.of y)) st=some v):yU Γ ρ o a w v:=by
 have hev:=h.ev y
 simp only [bQ] at hs
 split at hs
 case h_2=>cases hs
 rename_i b o' hx
 split at hs
 case h_2=>cases hs
 rename_i cs hcs
 injection hs with hs
 subst hs
 rw [hx] at hev
 obtain ⟨la,hla,hc'⟩:=hev.cInv.ptrInv
 obtain ⟨la1,xs,hla1,hcl,hxl,hcell,hrep,hle⟩:=h.read hcs
 rw [hla1] at hla
 injection hla with hla
 subst hla
 have hex:execOp a.eval o=(do pure (.value (← loadVar t ⟨la1.b,la1.off+o',none⟩))):=by
  simp [execOp,ho,Instr.loadAt,Instr.sureAddr,hc']
 exact .mk' (fun W hW=>nK hex (uF W hg hsz hok la1.b (la1.off+o') xs hxl fun j u hu=>(hW.resolve_left (by rw [ho];simp [aZe])) _ _ (hcell j u hu))) (aSS hok hxl hcl hrep)
theorem bDe {o:Oper} {x:Operand} (ho:o.op=.nilCheck x) {v:AV} (h:jN Γ ρ st a w) (hs:bQ (.nilck (Od.of x)) st=some v):yU Γ ρ o a w v:=by
 have hev:=h.ev x
 simp only [bQ] at hs
 split at hs
 ·rename_i b o' hx
  injection hs with hs
  subst hs
  rw [hx] at hev
  refine .mk' (x:=a.eval x) (fun W hW=>?_) hev
  obtain ⟨la,hla,hc'⟩:=hev.cInv.ptrInv
  simp [execOp,ho,hc']
 ·rename_i f us vs hx
  injection hs with hs
  subst hs
  rw [hx] at hev
  refine .mk' (x:=a.eval x) (fun W hW=>?_) hev
  have hc:=hev.cInv
  cases hc':a.eval x with
  | func g p c=>rw [hc'] at hc;cases hc with | fn=>simp [execOp,ho,hc']
  | _=>rw [hc'] at hc;cases hc
 cases hs
theorem qT {x:Value} (h:x.oneCell'=true):kY (kO ρ) (D3 x) x:=.c _ _ (.v _ h)
theorem bGT {op:BinOp} {u v r:Value} (hr:binV op u v=some r):r.oneCell'=true:=by
 unfold binV at hr
 split at hr<;>first | (obtain ⟨_,he⟩:=iE hr;injection he with he;subst he;rfl) | (injection hr with he;subst he;rfl) | cases hr
theorem aZ7 {o:Oper} {op:BinOp} {t ty:TypeId} {x y:Operand} (ho:o.op=.binOp op t x y ty) {v:AV} (h:jN Γ ρ st a w)
  (ht:(∃ k,Γ.P.underlying t=some (.int k))∨Γ.P.underlying t=some .string) (hs:bQ (.bin op (Od.of x) (Od.of y)) st=some v):yU Γ ρ o a w v:=by
 simp only [bQ] at hs
 split at hs
 case h_2=>cases hs
 rename_i u1 u2 h1 h2
 split at hs
 case h_2=>cases hs
 rename_i r hr
 injection hs with hs
 subst hs
 have hr:=bAd hr
 have e1:=(h.ev x).valInv h1
 have e2:=(h.ev y).valInv h2
 have hrun:=fun W:World=>run_binV (w:=W) (x:=x) (y:=y) ht hr
 exact .mk' (x:=r) (fun W hW=>nK (s:=do eqGuard op t x y (a.eval x) (a.eval y);binOp op t (a.eval x) (a.eval y)) (by simp [execOp,ho]) (by rw [e1,e2];exact hrun W)) (qT (bGT hr))
theorem aV0 {P:Program} {t:TypeId} {k:SK} (h:bJE P t=some k) {xs:Array Value} {off:Nat} {v:Value} (hx:xs[off]? = some v) (w:World):(part t xs off).run P w=.ok v w:=by
 unfold bJE at h
 split at h<;>first | (cases h;done) | (rename_i hu;simp [part,isAgg,run_underlying hu,hx])
theorem bTN {ks:List SK} {cs ds:List C} {b:Bool} (h:eqA (.i::ks) cs ds=some b):∃ k p q cs' ds',cs=.v (.int k p)::cs'∧ds=.v (.int k q)::ds'∧((p=q∧eqA ks cs' ds'=some b)∨(p≠q∧b=false)):=by
 cases cs with
 | nil=>simp [eqA] at h
 | cons c cs =>
  cases c<;>try (simp [eqA] at h;done)
  rename_i x
  cases x<;>try (simp [eqA] at h;done)
  rename_i k p
  cases ds with
  | nil=>simp [eqA] at h
  | cons c ds =>
   cases c<;>try (simp [eqA] at h;done)
   rename_i x
   cases x<;>try (simp [eqA] at h;done)
   rename_i k' q
   simp only [eqA] at h
   split at h
   case isFalse=>cases h
   rename_i hk
   subst hk
   refine ⟨k,p,q,cs,ds,rfl,rfl,?_⟩
   by_cases hpq:p=q
   ·rw [decide_eq_true hpq] at h;exact .inl ⟨hpq,h⟩
   rw [decide_eq_false hpq] at h;injection h with h;exact .inr ⟨hpq,h.symm⟩
theorem bS6 {ks:List SK} {cs ds:List C} {b:Bool} (h:eqA (.s::ks) cs ds=some b):∃ p q cs' ds',cs=.v (.string p)::cs'∧ds=.v (.string q)::ds'∧(((p.data.toList == q.data.toList)=true∧eqA ks cs' ds'=some b)∨((p.data.toList == q.data.toList)=false∧b=false)):=by
 cases cs with
 | nil=>simp [eqA] at h
 | cons c cs =>
  cases c<;>try (simp [eqA] at h;done)
  rename_i x
  cases x<;>try (simp [eqA] at h;done)
  rename_i p
  cases ds with
  | nil=>simp [eqA] at h
  | cons c ds =>
   cases c<;>try (simp [eqA] at h;done)
   rename_i x
   cases x<;>try (simp [eqA] at h;done)
   rename_i q
   simp only [eqA,D5] at h
   refine ⟨p,q,cs,ds,rfl,rfl,?_⟩
   cases hpq:(p.data.toList == q.data.toList) with
   | true=>rw [hpq] at h;exact .inl ⟨rfl,h⟩
   | false=>rw [hpq] at h;injection h with h;exact .inr ⟨rfl,h.symm⟩
theorem bSh {ks:List SK} {cs ds:List C} {b:Bool} (h:eqA (.b::ks) cs ds=some b):∃ p q cs' ds',cs=.v (.bool p)::cs'∧ds=.v (.bool q)::ds'∧(((p == q)=true∧eqA ks cs' ds'=some b)∨((p == q)=false∧b=false)):=by
 cases cs with
 | nil=>simp [eqA] at h
 | cons c cs =>
  cases c<;>try (simp [eqA] at h;done)
  rename_i x
  cases x<;>try (simp [eqA] at h;done)
  rename_i p
  cases ds with
  | nil=>simp [eqA] at h
  | cons c ds =>
   cases c<;>try (simp [eqA] at h;done)
   rename_i x
   cases x<;>try (simp [eqA] at h;done)
   rename_i q
   simp only [eqA] at h
   refine ⟨p,q,cs,ds,rfl,rfl,?_⟩
   cases hpq:(p == q) with
   | true=>rw [hpq] at h;exact .inl ⟨rfl,h⟩
   | false=>rw [hpq] at h;injection h with h;exact .inr ⟨rfl,h.symm⟩
theorem bLk {P:Program} {d:Nat} {xs ys:Array Value} (w:World):∀ (fs:List Field) (i:Nat) (ks:List SK) (cs ds:List C) (b:Bool),sks P i fs=some ks→eqA ks cs ds=some b →
    (∀ (j:Nat) (x:Value),cs[j]? = some (.v x)→xs[i+j]? = some x)→(∀ (j:Nat) (x:Value),ds[j]? = some (.v x)→ys[i+j]? = some x)→(Op.eqFields (d+1) xs ys fs).run P w=.ok b w:=by
  intro fs
  induction fs with
  | nil =>
    intro i ks cs ds b h1 h2 _ _
    simp only [sks] at h1
    injection h1 with h1
    subst h1
    simp only [eqA] at h2
    injection h2 with h2
    subst h2
    simp [Op.eqFields]
  | cons f fs ih =>
    intro i ks cs ds b h1 h2 hx hy
    simp only [sks] at h1
    split at h1
    case h_2=>cases h1
    rename_i k hk
    split at h1
    case isFalse=>cases h1
    rename_i hof
    split at h1
    case h_2=>cases h1
    rename_i l hl
    injection h1 with h1
    subst h1
    obtain ⟨ho,hn⟩:=hof
    have key:∀ (x y:Value) (cs' ds':List C) (q:Bool),cs=.v x::cs'→ds=.v y::ds'→(∀ w,(Op.equalIn (d+1) f.type x y).run P w=.ok q w)→(q=true→eqA l cs' ds'=some b)→(q=false→b=false)→(Op.eqFields (d+1) xs ys (f::fs)).run P w=.ok b w:=by
      intro x y cs' ds' q e1 e2 hq h3 h4
      subst e1 e2
      have g1:=aV0 hk (xs:=xs) (off:=f.offset) (v:=x) (by rw [ho];simpa using hx 0 x rfl) w
      have g2:=aV0 hk (xs:=ys) (off:=f.offset) (v:=y) (by rw [ho];simpa using hy 0 y rfl) w
      simp only [Op.eqFields,if_pos hn,Sem.run_bind,g1,g2,Result.andThen_ok,hq]
      cases q with
      | false=>rw [h4 rfl];simp
      | true =>
        simp only [Bool.not_true,Bool.false_eq_true,if_false]
        refine ih (i+1) l cs' ds' b hl (h3 rfl) (fun j x hj=>?_) (fun j x hj=>?_)
        · have := hx (j + 1) x (by simpa using hj)
          rw [show i+1+j=i+(j+1) by omega];exact this
        · have := hy (j + 1) x (by simpa using hj)
          rw [show i+1+j=i+(j+1) by omega];exact this
    unfold bJE at hk
    split at hk
    · rename_i kk hu
      injection hk with hk;subst hk
      obtain ⟨k1,p,q,cs',ds',rfl,rfl,h3⟩:=bTN h2
      refine key _ _ _ _ (p == q) rfl rfl (fun w=>run_equalIn_int w d f.type k1 kk p q hu) (fun hq=>?_) (fun hq=>?_)
      · have hq : p = q := by simpa using hq
        rcases h3 with h3 | h3
        · exact h3.2
        · exact absurd hq h3.1
      · have hq : ¬ p = q := by simpa using hq
        rcases h3 with h3 | h3
        · exact absurd h3.1 hq
        · exact h3.2
    · rename_i hu
      injection hk with hk;subst hk
      obtain ⟨p,q,cs',ds',rfl,rfl,h3⟩:=bS6 h2
      refine key _ _ _ _ (p.toList == q.toList) rfl rfl (fun w=>run_equalIn_string w d f.type p q hu) (fun hq=>?_) (fun hq=>?_)
      · rw [ByteArray.toList_eq,ByteArray.toList_eq] at hq
        rcases h3 with h3 | h3
        · exact h3.2
        · rw [h3.1] at hq;cases hq
      · rw [ByteArray.toList_eq,ByteArray.toList_eq] at hq
        rcases h3 with h3 | h3
        · rw [h3.1] at hq;cases hq
        · exact h3.2
    · rename_i hu
      injection hk with hk;subst hk
      obtain ⟨p,q,cs',ds',rfl,rfl,h3⟩:=bSh h2
      refine key _ _ _ _ (p == q) rfl rfl (fun w=>run_equalIn_bool' w d f.type p q hu) (fun hq=>?_) (fun hq=>?_)
      · rcases h3 with h3 | h3
        · exact h3.2
        · rw [h3.1] at hq;cases hq
      · rcases h3 with h3 | h3
        · rw [h3.1] at hq;cases hq
        · exact h3.2
    · cases hk
theorem bIz {P:Program} {op:BinOp} {t:TypeId} {fs:List Field} {x y:Od} {v:AV} (h:bQ (aZ1 P op t fs x y) st=some v):∃ ks,sks P 0 fs=some ks∧P.stoodInHeld t=false∧P.eqGuardType P.depth t=false∧(op=.eql∨op=.neq)∧bQ (.binA (op == .neq) ks x y) st=some v:=by
 unfold aZ1 at h
 split at h
 case h_2=>simp [bQ] at h
 rename_i ks hks
 split at h
 case isFalse=>simp [bQ] at h
 rename_i hc
 split at h
 ·exact ⟨ks,hks,hc.1,hc.2,.inl rfl,h⟩
 ·exact ⟨ks,hks,hc.1,hc.2,.inr rfl,h⟩
 simp [bQ] at h
theorem Z9 (P:Program) (op:BinOp) (t:TypeId) (fs:List Field) (x y:Od):aZ1 P op t fs x y=.bad∨∃ ne ks,aZ1 P op t fs x y=.binA ne ks x y:=by
 unfold aZ1
 split
 case h_2=>exact .inl rfl
 split
 case isFalse=>exact .inl rfl
 split
 ·exact .inr ⟨_,_,rfl⟩
 ·exact .inr ⟨_,_,rfl⟩
 exact .inl rfl
theorem bQh {P:Program} {op:BinOp} {t:TypeId} {fs:List Field} {x y:Od}:eP (aZ1 P op t fs x y) st=none:=by
 rcases Z9 P op t fs x y with h | ⟨ne,ks,h⟩<;>rw [h]<;>rfl
theorem bIo {o:Oper} {op:BinOp} {t ty:TypeId} {x y:Operand} {fs:Array Field} {ks:List SK} (ho:o.op=.binOp op t x y ty) {v:AV} (h:jN Γ ρ st a w)
  (ht:Γ.P.underlying t=some (.struct fs)) (hks:sks Γ.P 0 fs.toList=some ks) (hp:Γ.P.stoodInHeld t=false) (hg:Γ.P.eqGuardType Γ.P.depth t=false) (hop:op=.eql∨op=.neq)
  (hs:bQ (.binA (op == .neq) ks (Od.of x) (Od.of y)) st=some v):yU Γ ρ o a w v:=by
 simp only [bQ] at hs
 split at hs
 case h_2=>cases hs
 rename_i cs ds h1 h2
 split at hs
 case h_2=>cases hs
 rename_i b hb
 injection hs with hs
 subst hs
 have e1:=h.ev x
 have e2:=h.ev y
 rw [h1] at e1
 rw [h2] at e2
 have hfo:Γ.P.fieldsOf t=fs:=by simp [Program.fieldsOf,ht]
 generalize hu:a.eval x=u at e1
 generalize hv:a.eval y=u2 at e2
 cases e1 with
 | agg _ xs hx1 hx2 =>
  cases e2 with
  | agg _ ys hy1 hy2 =>
   have gx:∀ (j:Nat) (x:Value),cs[j]? = some (.v x)→xs[0+j]? = some x:=fun j x hj=>by
    have:=hx2 j _ hj
    have hlt:=(List.getElem?_eq_some_iff.1 hj).1
    rw [Nat.zero_add,Array.getElem?_eq_getElem (by omega)]
    rw [Array.getD_eq_getD_getElem?,Array.getElem?_eq_getElem (by omega)] at this
    cases this with | v _ _=>rfl
   have gy:∀ (j:Nat) (x:Value),ds[j]? = some (.v x)→ys[0+j]? = some x:=fun j x hj=>by
    have:=hy2 j _ hj
    have hlt:=(List.getElem?_eq_some_iff.1 hj).1
    rw [Nat.zero_add,Array.getElem?_eq_getElem (by omega)]
    rw [Array.getD_eq_getD_getElem?,Array.getElem?_eq_getElem (by omega)] at this
    cases this with | v _ _=>rfl
   have hq:∀ W:World,(Op.equalIn 10000 t (.agg xs) (.agg ys)).run Γ.P W=.ok b W:=fun W=>by
    have:=run_equalIn_struct (P:=Γ.P) W 9999 t xs ys (by rw [hfo];exact ht) hp
    rw [show (9999:Nat)+1=10000 from rfl] at this
    rw [this,hfo]
    exact bLk W fs.toList 0 ks cs ds b hks hb gx gy
   refine .mk' (x:=.bool (b != (op == .neq))) (fun W hW=>nK (s:=do eqGuard op t x y (a.eval x) (a.eval y);binOp op t (a.eval x) (a.eval y)) (by simp [execOp,ho]) ?_) (qT rfl)
   rw [hu,hv]
   simp only [Sem.run_bind,run_eqGuard_agg W op t x y xs ys hg,Result.andThen_ok]
   rcases hop with rfl | rfl
   ·rw [run_eql_struct,hq];cases b<;>rfl
   rw [run_neq_struct,hq];cases b<;>rfl
theorem bFl {o:Oper} {op:BinOp} {t ty:TypeId} {x y:Operand} (ho:o.op=.binOp op t x y ty) {v:AV} (h:jN Γ ρ st a w)
  (ht:Γ.P.underlying t=some .bool) (hs:bQ (.binB op (Od.of x) (Od.of y)) st=some v):yU Γ ρ o a w v:=by
 simp only [bQ] at hs
 split at hs
 case h_2=>cases hs
 rename_i u1 u2 h1 h2
 split at hs
 case h_2=>cases hs
 rename_i r hr
 injection hs with hs
 subst hs
 have e1:=(h.ev x).valInv h1
 have e2:=(h.ev y).valInv h2
 have hrun:∀ w:World,(do eqGuard op t x y u1 u2;binOp op t u1 u2:Sem Value).run Γ.P w=.ok r w:=by
  intro w
  have key:∀ (p q:Bool),(Op.equalIn (9999+1) t (.bool p) (.bool q)).run Γ.P w=.ok (p == q) w:=by
   intro p q
   rw [Op.equalIn]
   simp [run_underlying ht]
  unfold binBV at hr
  split at hr
  ·injection hr with he;subst he
   simp only [eqGuard,binOp,Op.equal,Op.maxDepth]
   simp [key]
  ·injection hr with he;subst he
   simp only [eqGuard,binOp,Op.equal,Op.maxDepth]
   simp [key]
  cases hr
 refine .mk' (x:=r) (fun W hW=>nK (s:=do eqGuard op t x y (a.eval x) (a.eval y);binOp op t (a.eval x) (a.eval y)) (by simp [execOp,ho]) (by rw [e1,e2];exact hrun W)) (qT ?_)
 unfold binBV at hr
 split at hr<;>first | (injection hr with he;subst he;rfl) | cases hr
theorem bNk {o:Oper} {op:UnOp} {t:TypeId} {x:Operand} (ho:o.op=.unOp op t x) {v:AV} (h:jN Γ ρ st a w)
  (hs:bQ (.un op (Od.of x)) st=some v):yU Γ ρ o a w v:=by
 simp only [bQ] at hs
 split at hs
 case h_2=>cases hs
 rename_i u1 h1
 split at hs
 case h_2=>cases hs
 rename_i r hr
 injection hs with hs
 subst hs
 have e1:=(h.ev x).valInv h1
 unfold unW at hr
 split at hr
 ·injection hr with he;subst he
  exact .mk' (fun W hW=>nK (s:=Op.unary .xor (a.eval x)) (by simp [execOp,ho]) (by rw [e1];simp [Op.unary,Op.intBits])) (qT rfl)
 unfold unV at hr
 split at hr
 ·injection hr with he;subst he
  exact .mk' (fun W hW=>nK (s:=Op.unary .not (a.eval x)) (by simp [execOp,ho]) (by rw [e1];simp [Op.unary])) (qT rfl)
 ·injection hr with he;subst he
  exact .mk' (fun W hW=>nK (s:=Op.unary .neg (a.eval x)) (by simp [execOp,ho]) (by rw [e1];simp [Op.unary,Op.intArith])) (qT rfl)
 cases hr
theorem bK5 {o:Oper} {s t:TypeId} {x:Operand} {k k0:IntKind} (ho:o.op=.convert s t x) {v:AV} (h:jN Γ ρ st a w)
  (h1:Γ.P.underlying s=some (.int k0)) (h2:Γ.P.underlying t=some (.int k)) (hs:bQ (.cvi k (Od.of x)) st=some v):yU Γ ρ o a w v:=by
 simp only [bQ] at hs
 split at hs
 case h_2=>cases hs
 rename_i n hn
 injection hs with hs
 subst hs
 obtain ⟨k1,e1⟩:=(h.ev x).intInv hn
 exact .mk' (fun W hW=>nK (s:=convert s t (a.eval x)) (by simp [execOp,ho]) (by rw [e1];simp [convert,run_underlying h1,run_underlying h2,Conv.intToInt])) (qT rfl)
theorem bJM {o:Oper} {s t:TypeId} {x:Operand} (ho:o.op=.convert s t x) {v:AV} (h:jN Γ ρ st a w)
  (h1:Γ.P.underlying s=some .string) (h2:Γ.P.underlying t=some .string) (hs:bQ (.cvs (Od.of x)) st=some v):yU Γ ρ o a w v:=by
 simp only [bQ] at hs
 split at hs
 case h_2=>cases hs
 rename_i n hn
 injection hs with hs
 subst hs
 have e1:=(h.ev x).valInv hn
 exact .mk' (fun W hW=>nK (s:=convert s t (a.eval x)) (by simp [execOp,ho]) (by rw [e1];simp [convert,run_underlying h1,run_underlying h2])) (qT rfl)
theorem aQ6 (h:jN Γ ρ st a w) {xs:List Operand} {cs:List (Bool×List C)} (hc:I2 st (xs.map Od.of)=some cs) :
  xs.length=cs.length∧(∀ (i:Nat) (p:Bool×List C),cs[i]? = some p→aYC p ((xs.map a.eval).getD i undef)) ∧
   ∀ (i:Nat) (p:Bool×List C) (j:Nat) (c:C),cs[i]? = some p→p.2[j]? = some c→kO ρ c (aE8 p.1 ((xs.map a.eval).getD i undef) j):=by
 induction xs generalizing cs with
 | nil=>simp [I2] at hc;subst hc;simp
 | cons x xs ih =>
  simp only [List.map_cons,I2] at hc
  split at hc
  ·rename_i c l hx hl
   injection hc with hc
   subst hc
   obtain ⟨i1,i2,i3⟩:=ih hl
   have:=h.ev x
   rw [hx] at this
   refine ⟨by simp [i1],fun i p hi=>?_,fun i p j c' hi hj=>?_⟩
   ·cases i with
    | zero=>simp at hi;subst hi;simp [aYC]
    | succ i=>simpa using i2 i p (by simpa using hi)
   cases i with
   | zero =>
    simp at hi
    subst hi
    cases j with
    | zero=>simp at hj;subst hj;simpa [aE8] using this.cInv
    | succ j=>simp at hj
   | succ i=>simpa using i3 i p j c' (by simpa using hi) hj
  ·rename_i cs' l hx hl
   injection hc with hc
   subst hc
   obtain ⟨i1,i2,i3⟩:=ih hl
   have:=h.ev x
   rw [hx] at this
   generalize hy:a.eval x=y at this
   cases this with
   | agg _ xs' hsz hh =>
    refine ⟨by simp [i1],fun i p hi=>?_,fun i p j c' hi hj=>?_⟩
    ·cases i with
     | zero=>simp at hi;subst hi;exact ⟨xs',by simpa using hy,hsz⟩
     | succ i=>simpa using i2 i p (by simpa using hi)
    cases i with
    | zero =>
     simp at hi
     subst hi
     simp only [List.map_cons,List.getD_cons_zero,hy,aE8]
     exact hh j c' hj
    | succ i=>simpa using i3 i p j c' (by simpa using hi) hj
  cases hc
theorem bKu {o:Oper} {f:FuncId} {first caps:Array Operand} (ho:o.op=.makeFunc (.func f) first caps) (h0:Nat.blt f 1000000=true) {v:AV} (h:jN Γ ρ st a w)
  (hs:bQ (.mkf f (first.toList.map Od.of) (caps.toList.map Od.of)) st=some v):yU Γ ρ o a w v:=by
 simp only [bQ] at hs
 split at hs
 case h_2=>cases hs
 rename_i us cs hus hcs
 injection hs with hs
 subst hs
 obtain ⟨i1,i2,i3⟩:=aQ6 h hcs
 obtain ⟨j1,j2,j3⟩:=aQ6 h hus
 have e1:∀ i,(first.map a.eval).getD i undef=(first.toList.map a.eval).getD i undef:=fun i=>by rw [kJ];simp
 have e2:∀ i,(caps.map a.eval).getD i undef=(caps.toList.map a.eval).getD i undef:=fun i=>by rw [kJ];simp
 refine .mk' (fun W hW=>nK (s:=Instr.makeFunc (.func f) (first.map a.eval) (caps.map a.eval)) (x:=.func (.func f) (first.map a.eval) (caps.map a.eval)) (by simp [execOp,ho]) (by simp [Instr.makeFunc])) (.c _ _ (.fn f us cs _ _ h0 (by simp;simpa using j1) (by simp;simpa using i1) (fun i p hi=>?_) (fun i p hi=>?_) (fun i p j c hi hj=>?_) fun i p j c hi hj=>?_))
 ·rw [e1];exact j2 i p hi
 ·rw [e2];exact i2 i p hi
 ·rw [e1];exact j3 i p j c hi hj
 rw [e2];exact i3 i p j c hi hj
theorem bJj {o:Oper} {x:Operand} {i:Nat} (ho:o.op=.extract x i) {v:AV} (h:jN Γ ρ st a w) (hs:bQ (.ext (Od.of x) i) st=some v):yU Γ ρ o a w v:=by
 have hev:=h.ev x
 simp only [bQ] at hs
 split at hs
 case h_2=>cases hs
 rename_i vs hx
 rw [hx] at hev
 cases hc':a.eval x with
 | tuple xs =>
  rw [hc'] at hev
  cases hev with
  | tup _ _ hsz hh =>
   have hi:i<xs.size:=by rw [hsz];exact (List.getElem?_eq_some_iff.1 hs).1
   have:=hh i v hs
   have hr:∀ W,(execOp a.eval o).run Γ.P W=.ok (.value xs[i]) W:=fun W=>nK (s:=Instr.extract (a.eval x) i) (x:=xs[i]) (by simp [execOp,ho]) (by rw [hc'];simp [Instr.extract,hi])
   refine .mk' (fun W _=>hr W) ?_
   simpa [Array.getD_eq_getD_getElem?,hi] using this
 | _=>rw [hc'] at hev;cases hev
theorem aYY {R:C→Value→Prop} {g:Bool} {s:Nat} (hok:g=true∨s=1) {cs:List C} {xs:Array Value} (off:Nat) (hl:off+s≤cs.length) (hsz:xs.size=cs.length)
  (h:∀ (i:Nat) (c:C),cs[i]? = some c→R c (xs.getD i undef)) :
  kY R (I0 g ((cs.drop off).take s)) (if g=true then .agg ((xs.toList.drop off).take s).toArray else ((xs.toList.drop off).take s).getD 0 undef):=by
 refine aSS hok (by simp;omega) (by simp;omega) fun i c hc=>?_
 rw [List.getElem?_take] at hc
 split at hc
 ·rename_i hlt
  rw [List.getElem?_drop] at hc
  have:=h (off+i) c hc
  simpa [List.getD_eq_getElem?_getD,List.getElem?_take,hlt,List.getElem?_drop,Array.getD_eq_getD_getElem?] using this
 cases hc
theorem bJs {o:Oper} {t:TypeId} {x:Operand} {i:Nat} {fs:Array Field} {f:Field} {g:Bool} {s:Nat} (ho:o.op=.field t x i) (hu:Γ.P.underlying t=some (.struct fs)) (hf:fs[i]? = some f)
    (hg:aAh Γ.P f.type=some g) (hsz:sP Γ.P f.type=some s) (hok:g=true∨s=1) {v:AV} (h:jN Γ ρ st a w)
    (hs:bQ (.fld g s f.offset (Od.of x)) st=some v):yU Γ ρ o a w v:=by
  have hev:=h.ev x
  simp only [bQ] at hs
  split at hs
  case h_2=>cases hs
  rename_i cs hx
  obtain ⟨hle,he⟩:=iE hs
  injection he with he
  subst he
  rw [hx] at hev
  cases hc':a.eval x with
  | agg xs =>
    rw [hc'] at hev
    cases hev with
    | agg _ _ hl hh =>
      exact .mk' (fun W hW => nK (s := Instr.field t (a.eval x) i) (by simp [execOp, ho]) (by
        rw [hc']
        simp only [Instr.field,Sem.run_bind,run_underlying hu,Result.andThen_ok,hf,asAgg,Sem.run_pure]
        exact aB6 hg hsz hok xs f.offset (by omega) W)) (aYY hok _ hle hl hh)
  | _=>rw [hc'] at hev;cases hev
theorem bJx {o:Oper} {t:TypeId} {x:Operand} {i:Nat} {fs:Array Field} {f:Field} {s:Nat} (ho:o.op=.fieldAddr t x i) (hu:Γ.P.underlying t=some (.struct fs)) (hf:fs[i]? = some f)
  (hsz:sP Γ.P f.type=some s) (hs0:s≠0) {v:AV} (h:jN Γ ρ st a w)
  (hs:bQ (.fad f.offset (Od.of x)) st=some v):yU Γ ρ o a w v:=by
 have hev:=h.ev x
 simp only [bQ] at hs
 split at hs
 case h_2=>cases hs
 rename_i b o' hx
 injection hs with hs
 subst hs
 rw [hx] at hev
 obtain ⟨la,hla,hc'⟩:=hev.cInv.ptrInv
 refine .mk' (fun W hW=>nK (s:=Instr.fieldAt t (a.eval x) i) (x:=.pointer (some ⟨la.b,la.off+(o'+f.offset),none⟩)) (by simp [execOp,ho]) ?_) (.c _ _ (.ptr b (o'+f.offset) la hla))
 rw [hc']
 simp [Instr.fieldAt,run_underlying hu,hf,Instr.sureAddr,fieldPlace,Go.Eng.run_sizeOf hsz,hs0,F8,Nat.add_assoc]
theorem bI7 {o:Oper} {t e:TypeId} {x y:Operand} {s:Nat} (ho:o.op=.indexAddr t x y) (hu:Γ.P.underlying t=some (.slice e))
  (hsz:sP Γ.P e=some s) {v:AV} (h:jN Γ ρ st a w) (hs:bQ (.iad s (Od.of x) (Od.of y)) st=some v):yU Γ ρ o a w v:=by
 have hev:=h.ev x
 simp only [bQ] at hs
 split at hs
 case h_2=>cases hs
 rename_i b o' n s' k hx hk
 obtain ⟨⟨rfl,hk0,hkn⟩,he⟩:=iE hs
 injection he with he
 subst he
 rw [hx] at hev
 obtain ⟨la,cap,hla,hc',hb,hn,hm⟩:=hev.cInv.slInv
 obtain ⟨k1,e2⟩:=(h.ev y).intInv hk
 refine .mk' (fun W hW=>nK (s:=Instr.indexAt t (a.eval x) (a.eval y)) (x:=.pointer (some ⟨la.b,la.off+(o'+k.toNat * s'),none⟩)) (by simp [execOp,ho]) ?_) (.c _ _ (.ptr b (o'+k.toNat * s') la hla))
 rw [hc',e2]
 simp [Instr.indexAt,wH,run_underlying hu,hk0,hkn,Go.Eng.run_sizeOf hsz,F8,Nat.add_assoc]
theorem bLg {o:Oper} {t:TypeId} {x y:Operand} (ho:o.op=.index t x y) (hu:Γ.P.underlying t=some .string) {v:AV} (h:jN Γ ρ st a w)
  (hs:bQ (.ixs (Od.of x) (Od.of y)) st=some v):yU Γ ρ o a w v:=by
 simp only [bQ] at hs
 split at hs
 ·rename_i s k hx hk
  obtain ⟨⟨hk0,hkn⟩,he⟩:=iE hs
  injection he with he
  subst he
  have e1:=(h.ev x).valInv hx
  obtain ⟨k1,e2⟩:=(h.ev y).intInv hk
  refine .mk' (fun W hW=>nK (s:=Instr.index t (a.eval x) (a.eval y)) (by simp [execOp,ho]) ?_) (qT rfl)
  rw [e1,e2]
  have:=aFY s k.toNat (by omega)
  simp [Instr.index,wH,run_underlying hu,hk0,this]
 cases hs
theorem bIO {o:Oper} {t e:TypeId} {n:Nat} {g:Bool} {s:Nat} {x y:Operand} (ho:o.op=.index t x y) (hu:Γ.P.underlying t=some (.array n e)) (hg:aAh Γ.P e=some g) (hsz:sP Γ.P e=some s)
  (hok:g=true∨s=1) {v:AV} (h:jN Γ ρ st a w) (hs:bQ (.ixa n g s (Od.of x) (Od.of y)) st=some v):yU Γ ρ o a w v:=by
 have hev:=h.ev x
 simp only [bQ] at hs
 split at hs
 ·rename_i cs k hx hk
  obtain ⟨⟨hk0,hkn,hl⟩,he⟩:=iE hs
  injection he with he
  subst he
  obtain ⟨k1,e2⟩:=(h.ev y).intInv hk
  rw [hx] at hev
  cases hc':a.eval x with
  | agg xs =>
   rw [hc'] at hev
   cases hev with
   | agg _ _ hl' hh =>
    have hfit:k.toNat * s+s≤cs.length:=by
     rw [← hl,← Nat.succ_mul]
     exact Nat.mul_le_mul_right _ (by omega)
    refine .mk' (fun W hW=>nK (s:=Instr.index t (a.eval x) (a.eval y)) (by simp [execOp,ho]) ?_) (aYY hok (k.toNat * s) hfit hl' hh)
    rw [e2,hc']
    simp only [Instr.index,Sem.run_bind,wH,Result.andThen_ok,run_underlying hu,hk0,hkn,and_self,if_true,Go.Eng.run_sizeOf hsz]
    exact aB6 hg hsz hok xs _ (by omega) W
  | _=>rw [hc'] at hev;cases hev
 cases hs
theorem bId {o:Oper} {c:Call} {t:TypeId} {x:Operand} (ho:o.op=.call c) (hc1:c.callee=.builtin .len) (hc2:c.argTypes[0]? = some t) (hc3:c.args.toList=[x])
  (hu:Γ.P.underlying t=some .string) {v:AV} (h:jN Γ ρ st a w) (hs:bQ (.len true (Od.of x)) st=some v):yU Γ ρ o a w v:=by
 simp only [bQ] at hs
 split at hs
 ·rename_i s hx
  injection hs with hs
  subst hs
  have e:=(h.ev x).valInv hx
  exact .mk' (fun W hW=>nK (aGG (t:=t) ho hc1 hc3) (by simp [Builtin.len_,hc2,e,run_underlying hu,goInt])) (qT rfl)
 cases hs
theorem bGq {o:Oper} {c:Call} {t e:TypeId} {x:Operand} (ho:o.op=.call c) (hc1:c.callee=.builtin .len) (hc2:c.argTypes[0]? = some t) (hc3:c.args.toList=[x])
  (hu:Γ.P.underlying t=some (.slice e)) {v:AV} (h:jN Γ ρ st a w) (hs:bQ (.len false (Od.of x)) st=some v):yU Γ ρ o a w v:=by
 have hev:=h.ev x
 simp only [bQ] at hs
 have key:∀ A n k,a.eval x=.slice A n k→yU Γ ρ o a w (D3 (.int .i64 n)):=fun A n k hc' =>
  .mk' (fun W hW=>nK (aGG (t:=t) ho hc1 hc3) (by simp [Builtin.len_,hc2,hc',run_underlying hu,goInt])) (qT rfl)
 split at hs
 ·rename_i A n k hx
  injection hs with hs
  subst hs
  rw [hx] at hev
  exact key A n k hev.cInv.vEq
 ·rename_i b o' n s hx
  injection hs with hs
  subst hs
  rw [hx] at hev
  obtain ⟨la,cap,hla,hc',_⟩:=hev.cInv.slInv
  exact key _ _ _ hc'
 ·rename_i hx
  injection hs with hs
  subst hs
  rw [hx] at hev
  obtain ⟨A,cap,hc'⟩:=hev.cInv.emInv
  exact key _ 0 _ hc'
 cases hs
theorem Qr (h:jN Γ ρ st a w) {x:Option Operand} {d:Nat} {l:Int} (hb:bnd st (x.map Od.of) d=some l):(x.map a.eval=none∧l=d)∨∃ k,x.map a.eval=some (.int k l):=by
 cases x with
 | none=>simp [bnd] at hb;exact .inl ⟨rfl,hb.symm⟩
 | some x =>
  simp only [Option.map_some,bnd] at hb
  obtain ⟨k,hk⟩:=(h.ev x).intInv hb
  exact .inr ⟨k,by simp [hk]⟩
theorem bHD {o:Oper} {t:TypeId} {x:Operand} {lo hi:Option Operand} (ho:o.op=.slice t x lo hi none) (hu:Γ.P.underlying t=some .string) {v:AV} (h:jN Γ ρ st a w)
  (hs:bQ (.slcS (Od.of x) (lo.map Od.of) (hi.map Od.of)) st=some v):yU Γ ρ o a w v:=by
 simp only [bQ] at hs
 split at hs
 case h_2=>cases hs
 rename_i s hx
 split at hs
 case h_2=>cases hs
 rename_i l hh hl hh'
 obtain ⟨⟨h0,h1,h2⟩,he⟩:=iE hs
 injection he with he
 subst he
 have e1:=(h.ev x).valInv hx
 have hb:=fun W:World=>Gi (P:=Γ.P) false s.size s.size _ _ l hh (Nat.le_refl _) (Qr h hl) (Qr h hh') h0 h1 h2 W
 refine .mk' (fun W hW=>nK (s:=Instr.sliceAt t (a.eval x) (lo.map a.eval) (hi.map a.eval) none) (by simp [execOp,ho]) ?_) (qT rfl)
 rw [e1,bKF]
 simp only [Instr.sliceAt,Sem.run_bind,run_underlying hu,Result.andThen_ok,Instr.slice]
 simp [hb]
theorem bK8 {o:Oper} {t e:TypeId} {s:Nat} {x:Operand} {lo hi:Option Operand} (ho:o.op=.slice t x lo hi none) (hu:Γ.P.underlying t=some (.slice e)) (hsz:sP Γ.P e=some s) {v:AV} (h:jN Γ ρ st a w)
    (hs:bQ (.slc s (Od.of x) (lo.map Od.of) (hi.map Od.of)) st=some v):yU Γ ρ o a w v:=by
  have hev:=h.ev x
  have hrun:∀ (w:World) A n cap (l hh:Int),a.eval x=.slice A n cap→n≤cap→((lo.map a.eval=none∧l=(0:Nat))∨∃ k,lo.map a.eval=some (.int k l))→((hi.map a.eval=none∧hh=n)∨∃ k,hi.map a.eval=some (.int k hh)) →
      0≤l→l≤hh→hh≤cap→(Instr.sliceAt t (a.eval x) (lo.map a.eval) (hi.map a.eval) none).run Γ.P w =
        .ok (.slice (if cap=l.toNat then A else A.map (·.add (l.toNat * s))) (hh.toNat - l.toNat) (cap - l.toNat)) w:=by
    intro w A n cap l hh h1 h2 h3 h4 h5 h6 h7
    have hb:=Gi (P:=Γ.P) true n cap _ _ l hh h2 h3 h4 h5 h6 h7 w
    rw [h1]
    simp only [Instr.sliceAt,Sem.run_bind,run_underlying hu,Result.andThen_ok,Instr.slice]
    simp [hb,Go.Eng.run_sizeOf hsz]
  simp only [bQ] at hs
  split at hs
  · rename_i b o' n s' hx
    split at hs
    case h_2=>cases hs
    rename_i l hh hl hh'
    obtain ⟨⟨rfl,h0,h1,h2⟩,he⟩:=iE hs
    injection he with he
    subst he
    rw [hx] at hev
    have hl':=Qr h hl
    have hh2:=Qr h hh'
    obtain ⟨la,cap,hla,hc',hb,hn,hm⟩:=hev.cInv.slInv
    have hr:=fun W:World=>hrun W _ _ _ l hh hc' hn hl' hh2 h0 h1 (by omega)
    refine .mk' (fun W hW=>nK (s:=Instr.sliceAt t (a.eval x) (lo.map a.eval) (hi.map a.eval) none) (by simp [execOp,ho]) (hr W)) ?_
    by_cases hl0:l=0
    · rw [if_pos hl0]
      subst hl0
      have:(if cap=(0:Int).toNat then some (⟨la.b,la.off+o',none⟩:Addr) else (some (⟨la.b,la.off+o',none⟩:Addr)).map (·.add ((0:Int).toNat * s')))=some ⟨la.b,la.off+o',none⟩:=by
        split
        · rfl
        · simp [F8]
      rw [this]
      exact .c _ _ (.sl b o' _ s' (cap - (0:Int).toNat) la hla (by simpa using hb) (by omega) (by omega))
    · rw [if_neg hl0]
      by_cases hln:l<n
      · rw [if_pos hln, if_neg (by omega)]
        simp only [Option.map_some,F8,Nat.add_assoc la.off o']
        refine .c _ _ (.sl b (o'+l.toNat * s') _ s' (cap - l.toNat) la hla ?_ (by omega) (by omega))
        have:l.toNat * s'+(cap - l.toNat) * s'=cap * s':=by rw [← Nat.add_mul];congr 1;omega
        omega
      · rw [if_neg hln]
        have e1:hh.toNat - l.toNat=0:=by omega
        rw [e1]
        split
        · exact .c _ _ (.em _ _)
        · exact .c _ _ (.em _ _)
  · rename_i hx
    split at hs
    case h_2=>cases hs
    rename_i l hh hl hh'
    obtain ⟨⟨rfl,rfl⟩,he⟩:=iE hs
    injection he with he
    subst he
    rw [hx] at hev
    have hc':=hev.cInv.vEq
    have hr:=fun W:World=>hrun W _ _ _ 0 0 hc' (Nat.le_refl _) (Qr h hl) (Qr h hh') (by omega) (by omega) (by omega)
    refine .mk' (fun W hW=>nK (s:=Instr.sliceAt t (a.eval x) (lo.map a.eval) (hi.map a.eval) none) (by simp [execOp,ho]) (hr W)) ?_
    simpa using kY.c (R:=kO ρ) _ _ (kO.v (ρ:=ρ) (.slice none 0 0) rfl)
  · rename_i hx
    split at hs
    case h_2=>cases hs
    rename_i l hh hl hh'
    obtain ⟨⟨rfl,rfl⟩,he⟩:=iE hs
    injection he with he
    subst he
    rw [hx] at hev
    obtain ⟨A,cap,hc'⟩:=hev.cInv.emInv
    have hr:=fun W:World=>hrun W _ _ _ 0 0 hc' (Nat.zero_le _) (Qr h hl) (Qr h hh') (by omega) (by omega) (by omega)
    refine .mk' (fun W hW=>nK (s:=Instr.sliceAt t (a.eval x) (lo.map a.eval) (hi.map a.eval) none) (by simp [execOp,ho]) (hr W)) ?_
    split
    · exact .c _ _ (.em _ _)
    · exact .c _ _ (.em _ _)
  · cases hs
theorem aVw (h:jN Γ ρ st a w) {place:Nat→Option (Nat×Nat)}:∀ (parts:List (Nat×Operand)) (l:List (Nat×Nat×Od)) (cs cs':List C) (cells:Array Value),
  (∀ (k:Nat) (p:Nat×Operand),parts[k]? = some p→∃ q,l[k]? = some q∧place p.1=some (q.1,q.2.1)∧q.2.2=Od.of p.2)→l.length=parts.length→cells.size=cs.length →
  (∀ (i:Nat) (c:C),cs[i]? = some c→kO ρ c (cells.getD i undef))→V0 st cs l=some cs' →
  ∃ cells',Instr.fill place cells (parts.map fun p=>(p.1,a.eval p.2))=some cells'∧cells'.size=cs'.length∧cs'.length=cs.length ∧
   ∀ (i:Nat) (c:C),cs'[i]? = some c→kO ρ c (cells'.getD i undef)
 | [],l,cs,cs',cells,hp,hl,hsz,hc,hf=>by
  have:l=[]:=List.eq_nil_of_length_eq_zero (by simpa using hl)
  subst this
  simp [V0] at hf
  subst hf
  exact ⟨cells,rfl,hsz,rfl,hc⟩
 | (i,x)::parts,l,cs,cs',cells,hp,hl,hsz,hc,hf=>by
  match l,hl with
  | (off,size,y)::l,hl =>
   obtain ⟨q,hq,hpl,hy⟩:=hp 0 (i,x) rfl
   simp at hq
   subst hq
   simp at hpl hy
   subst hy
   simp only [V0] at hf
   split at hf
   case h_2=>cases hf
   rename_i ds hds
   obtain ⟨⟨hd1,hd2⟩,hf⟩:=iE hf
   obtain ⟨hv1,hv2⟩:=(h.ev x).cellsInv hds
   have hfit:off+(a.eval x).cells.toList.length≤cells.toList.length:=by simp;omega
   have hfitc:off+ds.length≤cs.length:=by omega
   have ih:=aVw h parts l (kN cs off ds) cs' (kN cells.toList off (a.eval x).cells.toList).toArray
    (fun k p hk=>hp (k+1) p (by simpa using hk)) (by simpa using hl) (by simp [setL_length _ _ _ hfit,setL_length _ _ _ hfitc,hsz]) (fun j c hj=>?_) hf
   ·obtain ⟨cells',h1,h2,h3,h4⟩:=ih
    refine ⟨cells',?_,h2,by rw [h3,setL_length _ _ _ hfitc],h4⟩
    simp only [List.map_cons]
    rw [Wc hpl (by omega) (by omega)]
    exact h1
   rw [kJ,List.getD_eq_getElem?_getD]
   simp only [List.toList_toArray]
   rw [Bi _ _ _ hfit]
   rw [Bi _ _ _ hfitc] at hj
   have Ff:(a.eval x).cells.toList.length=ds.length:=by simpa using hv1
   rw [Ff]
   by_cases h1:j<off
   ·rw [if_pos h1] at hj ⊢
    have:=hc j c hj
    rwa [kJ,List.getD_eq_getElem?_getD] at this
   rw [if_neg h1] at hj ⊢
   by_cases h2:j<off+ds.length
   ·rw [if_pos h2] at hj ⊢
    have:=hv2 (j - off) c hj
    rwa [kJ,List.getD_eq_getElem?_getD] at this
   rw [if_neg h2] at hj ⊢
   have:=hc j c hj
   rwa [kJ,List.getD_eq_getElem?_getD] at this
theorem aS3 {z:List Value} (hone:∀ x,x∈z→x.oneCell'=true) (i:Nat) (c:C) (hc:(z.map fun v=>C.v v)[i]? = some c):kO ρ c (z.toArray.getD i undef):=by
 rw [List.getElem?_map] at hc
 cases hj:z[i]? with
 | none=>simp [hj] at hc
 | some x =>
  simp [hj] at hc
  subst hc
  have:z.toArray.getD i undef=x:=by rw [kJ,List.getD_eq_getElem?_getD];simp [hj]
  rw [this]
  exact .v x (hone x (List.mem_of_getElem? hj))
theorem aU6 {o:Oper} {t:TypeId} {parts:Array (Nat×Operand)} {z:List Value} {l:List (Nat×Nat×Od)} (ho:o.op=.build t parts) (hz:K4 Γ.P t=some z)
    (hpl : ∃ place, (∀ (k : Nat) (p : Nat × Operand), parts.toList[k]? = some p → ∃ q, l[k]? = some q ∧ place p.1 = some (q.1, q.2.1) ∧ q.2.2 = Od.of p.2) ∧ l.length = parts.toList.length ∧
      ∀ ps,Γ.P.built t ps=Instr.fill place z.toArray ps) {v:AV} (h:jN Γ ρ st a w)
    (hs:bQ (.build z l) st=some v):yU Γ ρ o a w v:=by
  obtain ⟨place,hp1,hp2,hp3⟩:=hpl
  obtain ⟨i,zv,hi,hzv,rfl,hone,hsz⟩:=Ae hz
  simp only [bQ] at hs
  split at hs
  case h_2=>cases hs
  rename_i cs hcs
  injection hs with hs
  subst hs
  obtain ⟨cells',h1,h2,h3,h4⟩:=aVw h (place:=place) parts.toList l _ cs zv.cells.toList.toArray hp1 hp2 (by simp) (fun i c hc=>aS3 hone i c hc) hcs
  have hb:Γ.P.built t (parts.map fun p=>(p.1,a.eval p.2)).toList=some cells':=by rw [hp3,Array.toList_map];exact h1
  exact .mk' (fun W hW=>nK (s:=Instr.build t (parts.map fun p=>(p.1,a.eval p.2))) (x:=.agg cells') (by simp [execOp,ho]) (run_build W t _ cells' hb)) (.agg cs _ h2 h4)
def nkT (P:Program) (t:TypeId):NK→Prop
 | .ptr=>∃ e,P.underlying t=some (.pointer e)
 | .sl=>∃ e,P.underlying t=some (.slice e)
 | .mp=>∃ k e,P.underlying t=some (.map k e)
 | .fn=>∃ a b c,P.underlying t=some (.func a b c)
def nkV:NK→Bool→Value→Prop
 | .ptr,true,x=>x=.pointer none
 | .ptr,false,x=>∃ a,x=.pointer (some a)
 | .sl,true,x=>∃ n c,x=.slice none n c
 | .sl,false,x=>∃ a n c,x=.slice (some a) n c
 | .mp,true,x=>x=.map none
 | .mp,false,x=>∃ a,x=.map (some a)
 | .fn,true,x=>x=.nilFunc
 | .fn,false,x=>∃ f a b,x=.func f a b
theorem aVz {k:NK} {v:AV} {b:Bool} {x:Value} (hv:kY (kO ρ) v x) (h:aS8 k v=some b):nkV k b x:=by
 unfold aS8 at h
 split at h<;>first | (injection h with h;subst h) | cases h
 ·exact hv.cInv.vEq
 ·exact ⟨_,_,hv.cInv.vEq⟩
 ·exact hv.cInv.vEq
 ·exact hv.cInv.vEq
 ·obtain ⟨la,_,e⟩:=hv.cInv.ptrInv;exact ⟨_,e⟩
 ·obtain ⟨la,cap,_,e,_⟩:=hv.cInv.slInv;exact ⟨_,_,_,e⟩
 ·obtain ⟨A,cap,e⟩:=hv.cInv.emInv;exact ⟨_,_,_,e⟩
 ·cases hv.cInv with | fn=>exact ⟨_,_,_,rfl⟩
 cases hv.cInv with | mp=>exact ⟨_,rfl⟩
theorem bFe {P:Program} {t:TypeId} {k:NK} (ht:nkT P t k) {a b:Bool} (hab:(a || b)=true) {x y:Value} (hx:nkV k a x) (hy:nkV k b y) (w:World):(Op.equal t x y).run P w=.ok (a && b) w:=by
  show (Op.equalIn (9999+1) t x y).run P w=_
  rw [Op.equalIn]
  cases k<;>cases a<;>cases b<;>simp only [nkV,nkT,Bool.or_false,Bool.or_true,Bool.or_self,Bool.false_eq_true] at * <;>
    (first
      | (obtain ⟨e,ht⟩:=ht;subst hx;subst hy;simp [run_underlying ht];done)
      | (obtain ⟨e,ht⟩:=ht;subst hx;obtain ⟨_,rfl⟩:=hy;simp [run_underlying ht];done)
      | (obtain ⟨e,ht⟩:=ht;subst hy;obtain ⟨_,rfl⟩:=hx;simp [run_underlying ht];done)
      | (obtain ⟨e,ht⟩:=ht;obtain ⟨_,_,rfl⟩:=hx;obtain ⟨_,_,rfl⟩:=hy;simp [run_underlying ht];done)
      | (obtain ⟨e,ht⟩:=ht;obtain ⟨_,_,rfl⟩:=hx;obtain ⟨_,_,_,rfl⟩:=hy;simp [run_underlying ht];done)
      | (obtain ⟨e,ht⟩:=ht;obtain ⟨_,_,_,rfl⟩:=hx;obtain ⟨_,_,rfl⟩:=hy;simp [run_underlying ht];done)
      | (obtain ⟨e1,e2,ht⟩:=ht;subst hx;subst hy;simp [run_underlying ht];done)
      | (obtain ⟨e1,e2,ht⟩:=ht;subst hx;obtain ⟨_,rfl⟩:=hy;simp [run_underlying ht];done)
      | (obtain ⟨e1,e2,ht⟩:=ht;subst hy;obtain ⟨_,rfl⟩:=hx;simp [run_underlying ht];done)
      | (obtain ⟨e1,e2,e3,ht⟩:=ht;subst hx;subst hy;simp [run_underlying ht];done)
      | (obtain ⟨e1,e2,e3,ht⟩:=ht;subst hx;obtain ⟨_,_,_,rfl⟩:=hy;simp [run_underlying ht];done)
      | (obtain ⟨e1,e2,e3,ht⟩:=ht;subst hy;obtain ⟨_,_,_,rfl⟩:=hx;simp [run_underlying ht];done))
theorem bHQ {P:Program} {t:TypeId} {k:NK} (ht:nkT P t k) {a b:Bool} (hab:(a || b)=true) {u v:Value} (hx:nkV k a u) (hy:nkV k b v) (op:BinOp) (hop:op=.eql∨op=.neq) (x y:Operand) (w:World) :
    (do eqGuard op t x y u v;binOp op t u v:Sem Value).run P w=.ok (.bool ((a && b) != (op == .neq))) w:=by
  have hg:∀ w:World,(eqGuard op t x y u v).run P w=.ok () w:=by
    intro w
    rcases hop with rfl | rfl<;>cases k<;>cases a<;>cases b<;>simp only [nkV,Bool.or_self,Bool.false_eq_true] at * <;>
      (first
        | (subst hx;subst hy;simp [eqGuard];done)
        | (subst hx;obtain ⟨_,rfl⟩:=hy;simp [eqGuard];done)
        | (subst hy;obtain ⟨_,rfl⟩:=hx;simp [eqGuard];done)
        | (obtain ⟨_,_,rfl⟩:=hx;obtain ⟨_,_,rfl⟩:=hy;simp [eqGuard];done)
        | (obtain ⟨_,_,rfl⟩:=hx;obtain ⟨_,_,_,rfl⟩:=hy;simp [eqGuard];done)
        | (obtain ⟨_,_,_,rfl⟩:=hx;obtain ⟨_,_,rfl⟩:=hy;simp [eqGuard];done)
        | (subst hx;obtain ⟨_,_,_,rfl⟩:=hy;simp [eqGuard];done)
        | (subst hy;obtain ⟨_,_,_,rfl⟩:=hx;simp [eqGuard];done))
  have hq:=bFe ht hab hx hy
  have hb:∀ w:World,(binOp op t u v).run P w=.ok (.bool ((a && b) != (op == .neq))) w:=by
    intro w
    have e1:binOp .eql t u v=(do pure (.bool (← Op.equal t u v))):=by
      cases k<;>cases a<;>cases b<;>simp only [nkV,Bool.or_self,Bool.false_eq_true] at * <;>
        (first
          | (subst hx;rfl;done)
          | (obtain ⟨_,rfl⟩:=hx;rfl;done)
          | (obtain ⟨_,_,rfl⟩:=hx;rfl;done)
          | (obtain ⟨_,_,_,rfl⟩:=hx;rfl;done))
    have e2:binOp .neq t u v=(do pure (.bool (!(← Op.equal t u v)))):=by
      cases k<;>cases a<;>cases b<;>simp only [nkV,Bool.or_self,Bool.false_eq_true] at * <;>
        (first
          | (subst hx;rfl;done)
          | (obtain ⟨_,rfl⟩:=hx;rfl;done)
          | (obtain ⟨_,_,rfl⟩:=hx;rfl;done)
          | (obtain ⟨_,_,_,rfl⟩:=hx;rfl;done))
    rcases hop with rfl | rfl
    · rw [e1];simp only [Sem.run_bind,hq w,Result.andThen_ok,Sem.run_pure];cases a<;>cases b<;>rfl
    · rw [e2];simp only [Sem.run_bind,hq w,Result.andThen_ok,Sem.run_pure];cases a<;>cases b<;>rfl
  simp [hg w,hb w]
theorem bF2 {k:NK} {op:BinOp} {x y:Od} {v:AV} (h:bQ (aS4 k op x y) st=some v):(op=.eql∨op=.neq)∧bQ (.cmpn k (op == .neq) x y) st=some v:=by
 cases op<;>first | exact ⟨.inl rfl,h⟩ | exact ⟨.inr rfl,h⟩ | (simp [aS4,bQ] at h;done)
theorem aGq {o:Oper} {op:BinOp} {t ty:TypeId} {x y:Operand} {k:NK} (ho:o.op=.binOp op t x y ty) {v:AV} (h:jN Γ ρ st a w) (ht:nkT Γ.P t k) (hs:bQ (aS4 k op (Od.of x) (Od.of y)) st=some v):yU Γ ρ o a w v:=by
 obtain ⟨hop,hs⟩:=bF2 hs
 simp only [bQ] at hs
 split at hs
 case h_2=>cases hs
 rename_i p q h1 h2
 split at hs
 case h_2=>cases hs
 rename_i hpq
 injection hs with hs
 subst hs
 have g1:=aVz (h.ev x) h1
 have g2:=aVz (h.ev y) h2
 exact .mk' (x:=.bool ((p && q) != (op == .neq))) (fun W hW=>nK (s:=do eqGuard op t x y (a.eval x) (a.eval y);binOp op t (a.eval x) (a.eval y)) (by simp [execOp,ho]) (bHQ ht hpq g1 g2 op hop x y W)) (qT rfl)
theorem bFg {o:Oper} {c:Call} {mn:Bool} {x y:Operand} (ho:o.op=.call c) (hc1:c.callee=.builtin (if mn=true then .min else .max)) (hc3:c.args.toList=[x,y]) {v:AV} (h:jN Γ ρ st a w)
  (hs:bQ (.mx mn (Od.of x) (Od.of y)) st=some v):yU Γ ρ o a w v:=by
 have hargs:c.args = #[x,y]:=by
  apply Array.ext'
  simpa using hc3
 simp only [bQ] at hs
 split at hs
 case h_2=>cases hs
 rename_i k n k' n' h1 h2
 obtain ⟨rfl,he⟩:=iE hs
 injection he with he
 subst he
 have e1:=(h.ev x).valInv h1
 have e2:=(h.ev y).valInv h2
 cases mn
 ·exact .mk' (fun W hW=>nK (s:=Builtin.max_ c.argTypes o.type #[a.eval x,a.eval y]) (by simp [execOp,ho,resolve,hc1,hargs,invoke,builtin]) (by rw [e1,e2];simp [Builtin.max_,Builtin.max2])) (qT rfl)
 exact .mk' (fun W hW=>nK (s:=Builtin.min_ c.argTypes o.type #[a.eval x,a.eval y]) (by simp [execOp,ho,resolve,hc1,hargs,invoke,builtin]) (by rw [e1,e2];simp [Builtin.min_,Builtin.min2])) (qT rfl)
theorem bKE {o:Oper} {t e:TypeId} {n:Nat} {x y:Operand} {s:Nat} (ho:o.op=.indexAddr t x y) (hu:Γ.P.underlying t=some (.array n e))
  (hsz:sP Γ.P e=some s) {v:AV} (h:jN Γ ρ st a w) (hs:bQ (.iaa n s (Od.of x) (Od.of y)) st=some v):yU Γ ρ o a w v:=by
 have hev:=h.ev x
 simp only [bQ] at hs
 split at hs
 case h_2=>cases hs
 rename_i b o' k hx hk
 obtain ⟨⟨hk0,hkn⟩,he⟩:=iE hs
 injection he with he
 subst he
 rw [hx] at hev
 obtain ⟨la,hla,hc'⟩:=hev.cInv.ptrInv
 obtain ⟨k1,e2⟩:=(h.ev y).intInv hk
 refine .mk' (fun W hW=>nK (s:=Instr.indexAt t (a.eval x) (a.eval y)) (x:=.pointer (some ⟨la.b,la.off+(o'+k.toNat * s),none⟩)) (by simp [execOp,ho]) ?_) (.c _ _ (.ptr b (o'+k.toNat * s) la hla))
 rw [hc',e2]
 simp [Instr.indexAt,wH,run_underlying hu,hk0,hkn,Go.Eng.run_sizeOf hsz,F8,Nat.add_assoc,Instr.sureAddr]
def Z0 (ρ:nV) (es:List (Value×AV×Nat)) (xs:List MapEntry):Prop:=
 xs.length=es.length∧∀ (i:Nat) (e:Value×AV×Nat) (x:MapEntry),es[i]? = some e→xs[i]? = some x→x.key=e.1∧x.born=e.2.2∧kY (kO ρ) e.2.1 x.val
theorem Z0.cons {e:Value×AV×Nat} {es:List (Value×AV×Nat)} {x:MapEntry} {xs:List MapEntry} (h:Z0 ρ (e::es) (x::xs)):(x.key=e.1∧x.born=e.2.2∧kY (kO ρ) e.2.1 x.val)∧Z0 ρ es xs:=
 ⟨h.2 0 e x rfl rfl,by simpa using h.1,fun i e' x' h1 h2=>h.2 (i+1) e' x' (by simpa using h1) (by simpa using h2)⟩
def bHX (str:Bool) (d:TypeDesc):Prop:=(str=false∧∃ k,d=.int k)∨(str=true∧d=.string)
theorem aSy {P:Program} {t:TypeId} {str:Bool} (h:aK2 P t=some str):∃ d,P.underlying t=some d∧bHX str d:=by
 unfold aK2 at h
 split at h
 ·rename_i k hk;injection h with h;subst h;exact ⟨_,hk,.inl ⟨rfl,k,rfl⟩⟩
 ·rename_i hk;injection h with h;subst h;exact ⟨_,hk,.inr ⟨rfl,rfl⟩⟩
 cases h
theorem aTw {str:Bool} {d:TypeDesc} (hd:bHX str d) {k k':Value} {b:Bool} (h:aEs str k k'=some b):Instr.sameNow d k k'=some b∧(b=true→k=k')∧(b=true→Instr.sameBits 10000 k' k=true):=by
  unfold aEs at h
  split at h
  · rename_i kk a kk' c
    split at h
    · rename_i he
      subst he
      injection h with h
      subst h
      rcases hd with ⟨_,q,rfl⟩ | ⟨h1,_⟩
      · refine ⟨by simp [Instr.sameNow], fun hb => ?_, fun hb => ?_⟩
        · have : a = c := by simpa using hb
          rw [this]
        · have : a = c := by simpa using hb
          rw [this];simp [Instr.sameBits]
      · cases h1
    · cases h
  · rename_i a c
    injection h with h
    subst h
    rcases hd with ⟨h1,_⟩ | ⟨_,rfl⟩
    · cases h1
    · have hb:J6 a.data.toList c.data.toList=(a == c):=by
        rw [D5]
        have h2:(a.data.toList == c.data.toList)=(a.data == c.data):=by
          by_cases h3:a.data=c.data
          · rw [h3];simp
          · have e1 : (a.data.toList == c.data.toList) = false := by simpa using fun h => h3 (Array.ext' h)
            have e2:(a.data == c.data)=false:=by simpa using h3
            rw [e1,e2]
        rw [h2];rfl
      have hab:J6 a.data.toList c.data.toList=true→a=c:=fun h=>by
        rw [D5] at h
        exact ByteArray.ext (Array.ext' (by simpa using h))
      refine ⟨by rw [hb];rfl,fun h=>by rw [hab h],fun h=>?_⟩
      have h3:(a == c)=true:=by rw [← hb];exact h
      have:=hab h
      subst this
      simp only [Instr.sameBits]
      exact h3
  · cases h
theorem bBv {str:Bool} {d:TypeDesc} (hd:bHX str d) {key:Value}:∀ {es:List (Value×AV×Nat)} {xs:List MapEntry} (k0:Nat),Z0 ρ es xs →
  (Kz str key es=some none→Instr.findNow d key xs k0=some none) ∧
  (∀ v,Kz str key es=some (some v)→∃ (i:Nat) (x:MapEntry),xs[i]? = some x∧Instr.findNow d key xs k0=some (some (k0+i,x.val))∧kY (kO ρ) v x.val):=by
 intro es
 induction es with
 | nil =>
  intro xs k0 h
  have:xs=[]:=List.eq_nil_of_length_eq_zero (by simpa using h.1)
  subst this
  exact ⟨fun _=>rfl,fun v h=>by simp [Kz] at h⟩
 | cons e es ih =>
  intro xs k0 h
  obtain ⟨k,v0,n⟩:=e
  match xs,h with
  | [],h=>exact absurd h.1 (by simp)
  | x::xs,h =>
   obtain ⟨⟨h1,h2,h3⟩,h4⟩:=h.cons
   simp only at h1 h2 h3
   simp only [Kz,Instr.findNow,h1]
   cases hs:aEs str key k with
   | none=>exact ⟨fun h=>by simp at h,fun v h=>by simp at h⟩
   | some b =>
    obtain ⟨g1,_⟩:=aTw hd hs
    rw [g1]
    cases b with
    | true=>exact ⟨fun h=>by simp at h,fun v h=>by simp at h;subst h;exact ⟨0,x,rfl,rfl,h3⟩⟩
    | false =>
     obtain ⟨i1,i2⟩:=ih (k0+1) h4
     refine ⟨fun h=>i1 h,fun v h=>?_⟩
     obtain ⟨i,y,h5,h6,h7⟩:=i2 v h
     exact ⟨i+1,y,by simpa using h5,by rw [h6,show k0+1+i=k0+(i+1) by omega],h7⟩
theorem bGf {str:Bool} {d:TypeDesc} (hd:bHX str d) {key:Value} {v:AV} {clock:Nat}:∀ {es es':List (Value×AV×Nat)} {c':Nat} {xs:List MapEntry} (k0:Nat),Z0 ρ es xs→aN9 str key v clock es=some (es',c') →
  (Instr.findNow d key xs k0=some none∧es'=es++[(key,v,clock)]∧c'=clock+1) ∨
  (∃ (i:Nat) (x:MapEntry),xs[i]? = some x∧Instr.findNow d key xs k0=some (some (k0+i,x.val))∧x.key=key∧Instr.sameBits 10000 x.key key=true∧es'=es.set i (key,v,x.born)∧c'=clock):=by
 intro es
 induction es with
 | nil =>
  intro es' c' xs k0 h hs
  have:xs=[]:=List.eq_nil_of_length_eq_zero (by simpa using h.1)
  subst this
  simp only [aN9] at hs
  injection hs with hs
  obtain ⟨rfl,rfl⟩:=Prod.mk.inj hs
  exact .inl ⟨rfl,rfl,rfl⟩
 | cons e es ih =>
  intro es' c' xs k0 h hset
  obtain ⟨k,v0,n⟩:=e
  match xs,h with
  | [],h=>exact absurd h.1 (by simp)
  | x::xs,h =>
   obtain ⟨⟨h1,h2,h3⟩,h4⟩:=h.cons
   simp only at h1 h2 h3
   simp only [aN9] at hset
   cases hs:aEs str key k with
   | none=>rw [hs] at hset;cases hset
   | some b =>
    rw [hs] at hset
    obtain ⟨g1,g2,g3⟩:=aTw hd hs
    simp only [Instr.findNow,h1,g1]
    cases b with
    | true =>
     simp only at hset
     injection hset with hset
     obtain ⟨rfl,rfl⟩:=Prod.mk.inj hset
     have hk:=g2 rfl
     subst hk
     exact .inr ⟨0,x,rfl,rfl,h1,by rw [h1];exact g3 rfl,by simp [h2],rfl⟩
    | false =>
     simp only at hset
     split at hset
     case h_2=>cases hset
     rename_i es1 c1 hrec
     injection hset with hset
     obtain ⟨rfl,rfl⟩:=Prod.mk.inj hset
     rcases ih (k0+1) h4 hrec with ⟨i1,i2,i3⟩ | ⟨i,y,i1,i2,i3,i4,i5,i6⟩
     ·exact .inl ⟨i1,by rw [i2];rfl,i3⟩
     exact .inr ⟨i+1,y,by simpa using i1,by rw [i2,show k0+1+i=k0+(i+1) by omega],i3,i4,by rw [i5];rfl,i6⟩
theorem aAu {P:Program} {b:Bool} {t:TypeId} {str:Bool} {d:TypeDesc} (hu:P.underlying t=some d) (hd:bHX str d) (k:Value) (w:World):(Instr.checkKey b (9999+1) t k).run P w=.ok () w:=by
 rw [Instr.checkKey]
 rcases hd with ⟨_,q,rfl⟩ | ⟨_,rfl⟩<;>simp [run_underlying hu]
theorem bDR {P:Program} {t:TypeId} {g:Bool} {z:List Value} (h:bAB P t=some (g,z)):∃ zv,(∀ w:World,(zeroValue t).run P w=.ok zv w)∧kY (kO ρ) (I0 g (z.map fun v=>.v v)) zv:=by
 unfold bAB at h
 split at h
 case h_2=>cases h
 rename_i i hi
 split at h
 ·rename_i cs hz
  split at h
  ·rename_i hall
   injection h with h
   obtain ⟨rfl,rfl⟩:=Prod.mk.inj h
   refine ⟨.agg cs,fun w=>by simp [zeroValue,typeInfo,hi,hz],?_⟩
   refine .agg _ cs (by simp) fun j c hc=>?_
   have:=aS3 (ρ:=ρ) (fun x hx=>List.all_eq_true.1 hall x hx) j c hc
   simpa using this
  cases h
 ·rename_i zv hne hz
  split at h
  ·rename_i hone
   injection h with h
   obtain ⟨rfl,rfl⟩:=Prod.mk.inj h
   exact ⟨zv,fun w=>by simp [zeroValue,typeInfo,hi,hz],.c _ _ (.v zv hone)⟩
  cases h
 cases h
theorem jN.ment (h:jN Γ ρ st a w) {x:Operand} {es:List (Value×AV×Nat)} (hm:st.ment (st.ev (Od.of x))=some es) :
  (a.eval x=.map none∧es=[])∨∃ (b:Nat) (la:Pl) (xs:List MapEntry) (clock:Nat),ρ b=some la∧a.eval x=.map (some la.b)∧w.heap[la.b]? = some (.map xs.toArray clock)∧Z0 ρ es xs:=by
 have hev:=h.ev x
 generalize hv:st.ev (Od.of x)=v at hm hev
 unfold AS.ment at hm
 split at hm
 ·injection hm with hm
  exact .inl ⟨hev.cInv.vEq,hm.symm⟩
 ·rename_i b
  split at hm
  case h_2=>cases hm
  rename_i es1 clock hb
  injection hm with hm
  subst hm
  obtain ⟨la,hla,hrep⟩:=h.m.blk b _ hb
  cases hrep with
  | mp _ _ xs hh hl hf =>
   right
   refine ⟨b,la,xs,clock,hla,?_,hh,hl,hf⟩
   have:=hev.cInv
   revert this
   generalize a.eval x=y
   intro this
   cases this with
   | mp _ la1 hla1=>rw [hla] at hla1;injection hla1 with hla1;subst hla1;rfl
 cases hm
theorem bFu {o:Oper} {t kt e:TypeId} {x k:Operand} {ok:Bool} {str g:Bool} {z:List Value} (ho:o.op=.lookup t x k ok) (hu:Γ.P.underlying t=some (.map kt e)) (hk:aK2 Γ.P kt=some str) (hz:bAB Γ.P e=some (g,z))
    {v:AV} (h:jN Γ ρ st a w) (hs:aF8 st str z g (Od.of x) (Od.of k) ok=some v):∃ y,(execOp a.eval o).run Γ.P w=.ok (.value y) w∧kY (kO ρ) v y:=by
  obtain ⟨d,hud,hd⟩:=aSy hk
  obtain ⟨zv,hzv,hzr⟩:=bDR (ρ:=ρ) hz
  unfold aF8 at hs
  split at hs
  case h_2=>cases hs
  rename_i key hkey
  split at hs
  case h_2=>cases hs
  rename_i es hes
  have ek:=(h.ev k).valInv hkey
  have hfind:∃ xs:List MapEntry,Z0 ρ es xs∧∀ r:Option (Nat×Value),Instr.findNow d key xs 0=some r→(Instr.lookup t (a.eval x) (a.eval k) ok).run Γ.P w =
      .ok (match r with | some (_,v)=>(if ok then .tuple #[v,.bool true] else v) | none=>(if ok then .tuple #[zv,.bool false] else zv)) w:=by
    rcases h.ment hes with ⟨hx,rfl⟩ | ⟨b,la,xs,clock,hla,hx,hh,hrep⟩
    · refine ⟨[], ⟨rfl, by simp⟩, fun r hr => ?_⟩
      have hck:=aAu (P:=Γ.P) (b:=(#[]:Array MapEntry).isEmpty) hud hd key w
      rw [hx,ek]
      simp only [Instr.lookup,Sem.run_bind,run_underlying hu,Result.andThen_ok,Sem.run_pure]
      rw [show (10000:Nat)=9999+1 from rfl,hck]
      simp only [Result.andThen_ok,Instr.findKey,Sem.run_bind,run_underlying hud,hr,Sem.run_pure]
      cases r with
      | none=>simp [hzv w]<;>(cases ok<;>rfl)
      | some p=>obtain ⟨n,v⟩:=p;cases ok<;>rfl
    · refine ⟨xs,hrep,fun r hr=>?_⟩
      have hck:=aAu (P:=Γ.P) (b:=xs.toArray.isEmpty) hud hd key w
      have hget:(getObj la.b).run Γ.P w=.ok (.map xs.toArray clock) w:=by simp [getObj,Sem.run,hh]
      rw [hx,ek]
      simp only [Instr.lookup,Sem.run_bind,run_underlying hu,Result.andThen_ok,Sem.run_pure,hget]
      rw [show (10000:Nat)=9999+1 from rfl,hck]
      simp only [Result.andThen_ok,Instr.findKey,Sem.run_bind,run_underlying hud,List.toList_toArray,hr,Sem.run_pure]
      cases r with
      | none=>simp [hzv w]<;>(cases ok<;>rfl)
      | some p=>obtain ⟨n,v⟩:=p;cases ok<;>rfl
  obtain ⟨xs,hrep,hrun⟩:=hfind
  split at hs
  case h_2=>cases hs
  rename_i r hr
  obtain ⟨f1,f2⟩:=bBv hd (key:=key) 0 hrep
  have hex:∀ y,(Instr.lookup t (a.eval x) (a.eval k) ok).run Γ.P w=.ok y w→(execOp a.eval o).run Γ.P w=.ok (.value y) w:=fun y hy=>nK (s:=Instr.lookup t (a.eval x) (a.eval k) ok) (by simp [execOp,ho]) hy
  have htup:∀ (u:AV) (y:Value) (b:Bool),kY (kO ρ) u y→kY (kO ρ) (.tup [u,D3 (.bool b)]) (.tuple #[y,.bool b]):=by
    intro u y b hr
    refine .tup _ _ rfl fun i c hc=>?_
    match i,hc with
    | 0,hc=>simp at hc;subst hc;exact hr
    | 1,hc=>simp at hc;subst hc;exact qT rfl
    | i+2,hc=>simp at hc
  cases ok with
  | true =>
    simp only at hs
    cases r with
    | none =>
      simp only at hs;injection hs with hs;subst hs
      exact ⟨_,hex _ (hrun _ (f1 hr)),htup _ _ _ hzr⟩
    | some u =>
      simp only at hs;injection hs with hs;subst hs
      obtain ⟨i,y,_,h2,h3⟩:=f2 u hr
      exact ⟨_,hex _ (hrun _ h2),htup _ _ _ h3⟩
  | false =>
    simp only at hs
    cases r with
    | none =>
      simp only at hs;injection hs with hs;subst hs
      exact ⟨_,hex _ (hrun _ (f1 hr)),hzr⟩
    | some u =>
      simp only at hs;injection hs with hs;subst hs
      obtain ⟨i,y,_,h2,h3⟩:=f2 u hr
      exact ⟨_,hex _ (hrun _ h2),h3⟩
end
end Go.CE
namespace Go.Eng
open Go.RowKit
def callable (P : Program) (f : FuncId) : Bool :=
 match P.funcs[f]? with
 | some fn => fn.name != "runtime.NumGoroutine" && fn.body.isSome
 | none => false
open Go.RowKit
section state
variable {i j d r:Nat}
end state
section steps
variable {d:Nat}
variable {fr fr2:Bool} {k:IntKind} {a b:Int} {s s2:ByteArray}
end steps
theorem aCf {α:Type} (l:List α) (j:Nat) (x:List α):kN l j x=l.take j++x++l.drop (j+x.length):=rfl
open Go.RowKit
section any
variable {P:Program} {ops:Array Oper} {Q:Exit→Act→World→Prop} {md:Region.Mode} {S:Array Bool→Act→World→Prop}
end any
section draw
variable {ops:Array Oper} {w₀:World}
theorem ancOf_bit (acc:List Nat) (t:Nat):∀ (l:List Nat) (m:Nat),(l.foldl (fun m k=>m ||| (1 <<< k) ||| acc.getD k 0) m).testBit t=true→m.testBit t=true∨∃ k∈l,k=t∨(acc.getD k 0).testBit t=true:=by
 intro l
 induction l with
 | nil=>intro m h;exact .inl h
 | cons k l ih =>
  intro m h
  rcases ih _ h with h | ⟨k',hk,h⟩
  ·rw [Nat.testBit_or,Nat.testBit_or] at h
   simp only [Bool.or_eq_true] at h
   rcases h with (h | h) | h
   ·exact .inl h
   ·right
    refine ⟨k,by simp,.inl ?_⟩
    rw [Nat.one_shiftLeft] at h
    rw [Nat.testBit_two_pow] at h
    simpa using h
   exact .inr ⟨k,by simp,.inr h⟩
  exact .inr ⟨k',by simp [hk],h⟩
end draw
open Go.RowKit Go.ChangeShapes Go.WideShapes
section
variable {H:Type} {enc:TypeId×Value→H} {P:Program}
theorem aWl (hl:laidOutB P=true) {W W':World} {sp:Nat→Bool}:∀ {ts:List TypeId} {vs:List Value} {ds:List (DataW H)} {ps:List MemPlace},(ts.all fun t=>P.readableRec t && decide (t<P.types.size))=true →
  DataW.TrodAll enc P W 0 (fun _=>true) true ts vs ds ps→(∀ p∈ps,W.sameAt W' p)→(∀ p∈ps,sp p.block=true)→DataW.TrodAll enc P W' 0 sp true ts vs ds ps:=by
 intro ts
 induction ts with
 | nil =>
  intro vs ds ps _ h _ _
  cases vs<;>cases ds<;>first | exact h | exact h.elim
 | cons t ts ih =>
  intro vs ds ps hr h hs hsp
  cases vs with
  | nil=>cases ds<;>exact h.elim
  | cons v vs =>
   cases ds with
   | nil=>exact h.elim
   | cons d ds =>
    obtain ⟨p,q,h1,h2,e⟩:=h
    subst e
    simp only [List.all_cons,Bool.and_eq_true,decide_eq_true_eq] at hr
    exact ⟨p,q,WideElems.Trod_stays hl hr.1.1 hr.1.2 h1 (fun x hx=>hs x (List.mem_append_left _ hx)) (fun x hx=>hsp x (List.mem_append_left _ hx)),ih (by simpa using hr.2) h2 (fun x hx=>hs x (List.mem_append_right _ hx)) (fun x hx=>hsp x (List.mem_append_right _ hx)),rfl⟩
theorem aYb {f:Func} {s:ChangeSpec} {apart fresh handsOn again:Bool} {W W':World} {args:Array Value} {ds:List (DataW H)} {before:List MemPlace} {tb:TypeId}
  (hv:s.vars=[]) (hfn:s.fn H (ds++[])={ results:=[.lit (.bool true)],args:=ds }) (hrt:f.resultTypes = #[tb]) (htb:P.underlying tb=some .bool) (hl:laidOutB P=true)
  (hrd:(f.params.toList.all fun t=>P.readableRec t && decide (t<P.types.size))=true)
  (hW:DataW.Whole enc P f.params.toList s.vars apart W args.toList ds [] before) (hb:Below W.heap.size W W'):s.post enc P f apart fresh handsOn again W args (.bool true) W':=by
 have hlt:∀ p∈before,p.block<W.heap.size:=fun p hp=>hW.lt p hp
 obtain ⟨p,q,hA,hV,he,hz,hn⟩:=id hW
 rw [hv] at hV
 obtain ⟨_,rfl⟩:=trodVars_none hV
 rw [List.append_nil] at he
 subst he
 have hargs:∀ sp:Nat→Bool,(∀ x∈before,sp x.block=true)→DataW.TrodAll enc P W' 0 sp true f.params.toList args.toList ds before:=fun sp hsp=>aWl hl hrd hA (fun x hx=>hb.same (hlt x hx)) hsp
 have hres:∀ (b:Nat) (sp:Nat→Bool) (hd:Bool),DataW.TrodAll enc P W' b sp hd [tb] [.bool true] [.lit (.bool true)] []:=fun b sp hd=>trodAll_mk1 (shut_bool htb true)
 have hrl:(Value.bool true).resultList f.resultTypes.size=[.bool true]:=by rw [hrt];rfl
 refine ⟨ds,[],before,[],before,[],hW,?_,?_,?_,hb.frame _,fun _=>⟨ok_one hrt rfl (okWide_bool_mk htb true),[.lit (.bool true)]++ds,[],[]++before,⟨[]++before,[],?_,?_,by simp,?_,?_⟩,?_⟩⟩
 ·rw [hfn,hrt];exact hres _ _ _
 ·rw [hfn];exact hargs _ (fun x hx=>by simpa using hlt x hx)
 ·rw [hfn,hv];rfl
 ·rw [hrl,hrt]
  exact trodAll_append (hargs (fun _=>true) (fun _ _=>rfl)) (hres _ (fun _=>true) _)
 ·rw [hv];rfl
 ·intro b off hp
  have hin:MemPlace.cell b off∈before:=by simpa using hp
  rw [hb.frozen (hlt _ hin)]
  exact hz b off hin
 ·intro ha
  simpa using hn ha
 intro x hx _
 simpa using hx
end
end Go.Eng

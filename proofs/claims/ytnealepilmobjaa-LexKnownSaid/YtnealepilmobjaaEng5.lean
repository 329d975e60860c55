/-
  The engine, part 5: the operations, read off the program, and what each does to an abstract state.
-/
import Derived.Test.YtnealepilmobjaaEng4
set_option linter.unusedVariables false
set_option linter.unusedSimpArgs false
namespace Go.Eng
open Go.RowKit

inductive Od where
  | t (i : Nat)
  | k (v : Value)
  | f (f : Nat)
  | bad
def Od.of : Operand → Od
  | .tmp i => .t i
  | .const x => .k x
  | .func g => .f g
  | .global _ => .bad

inductive Ins where
  | mv (x : Od)
  | pick (c a b : Od)
  | alloc (ty : Nat) (zero : List Value)
  | box (ty : Nat) (x : Od)
  | build (zero : List Value) (parts : List (Nat × Nat × Od))
  | bslice (ty size len : Nat) (zero : List Value) (parts : List (Nat × Od))
  | load (agg : Bool) (size : Nat) (a : Od)
  | store (size : Nat) (a x : Od)
  | nilck (x : Od)
  | bin (op : BinOp) (x y : Od)
  | binB (op : BinOp) (x y : Od)
  | un (op : UnOp) (x : Od)
  | cvi (k : IntKind) (x : Od)
  | cvs (x : Od)
  | bstr (x : Od)
  | mkf (f : Nat) (caps : List Od)
  | mksl (ty size bytes : Nat) (zero : List Value) (l c : Od)
  | slcS (x : Od) (lo hi : Option Od)
  | slc (size : Nat) (x : Od) (lo hi : Option Od)
  | fad (off : Nat) (x : Od)
  | fld (agg : Bool) (size off : Nat) (x : Od)
  | iad (size : Nat) (x i : Od)
  | ixs (x i : Od)
  | ixa (len : Nat) (agg : Bool) (size : Nat) (x i : Od)
  | ext (x : Od) (i : Nat)
  | len (str : Bool) (x : Od)
  | app (ty size bytes : Nat) (zero : List Value) (x y : Od)
  | call (f : Nat) (args : List Od)
  | callv (f : Od) (args : List Od)
  | bad

def aggT (P : Program) (t : TypeId) : Option Bool :=
  match P.underlying t with
  | some (.struct _) | some (.array _ _) => some true
  | some _ => some false
  | none => none
def zeroT (P : Program) (t : TypeId) : Option (List Value) :=
  match P.info? t with
  | some i => match i.zero with
    | some z => if z.cells.toList.all Value.oneCell' = true ∧ z.cells.size = i.size then some z.cells.toList else none
    | none => none
  | none => none
def sizeT (P : Program) (t : TypeId) : Option Nat := (P.info? t).map (·.size)
def bytesT (P : Program) (t : TypeId) : Option Nat := (P.info? t).map (·.bytes)

def ofParts (places : List (Nat × Nat)) : List (Nat × Operand) → Option (List (Nat × Nat × Od))
  | [] => some []
  | (i, x) :: r => match places[i]?, ofParts places r with
    | some (off, s), some l => some ((off, s, Od.of x) :: l)
    | _, _ => none

def isStr (P : Program) (t : TypeId) : Bool := match P.underlying t with
  | some .string => true
  | _ => false
theorem isStr_eq {P : Program} {t : TypeId} (h : isStr P t = true) : P.underlying t = some .string := by
  unfold isStr at h
  split at h
  · assumption
  · cases h
def Ins.ofCall (P : Program) (c : Call) : Ins :=
  match c.callee with
  | .value (.func f) => .call f (c.args.toList.map Od.of)
  | .value (.tmp t) => .callv (.t t) (c.args.toList.map Od.of)
  | .builtin .len =>
    match c.argTypes[0]?, c.args.toList with
    | some t, [x] => match P.underlying t with
      | some .string => .len true (Od.of x)
      | some (.slice _) => .len false (Od.of x)
      | _ => .bad
    | _, _ => .bad
  | .builtin .append =>
    match c.argTypes.toList, c.args.toList with
    | [t, t'], [x, y] => if t = t' ∨ isStr P t' = true then (match P.underlying t with
      | some (.slice e) => match sizeT P e, bytesT P e, zeroT P e with
        | some s, some b, some z => if 0 < s then .app e s b z (Od.of x) (Od.of y) else .bad
        | _, _, _ => .bad
      | _ => .bad) else .bad
    | _, _ => .bad
  | _ => .bad

def Ins.of (P : Program) : Op → Ins
  | .move x | .assign x => .mv (Od.of x)
  | .pick c a b => .pick (Od.of c) (Od.of a) (Od.of b)
  | .alloc e => match zeroT P e with
    | some z => .alloc e z
    | none => .bad
  | .box e x => .box e (Od.of x)
  | .build t parts => match P.underlying t, zeroT P t with
    | some (.struct fs), some z => match fs.toList.mapM (fun f => (P.info? f.type).map fun i => (f.offset, i.size)) with
      | some places => match ofParts places parts.toList with
        | some l => .build z l
        | none => .bad
      | none => .bad
    | some (.array _ e), some z => match sizeT P e with
      | some s => .build z (parts.toList.map fun p => (p.1 * s, s, Od.of p.2))
      | none => .bad
    | _, _ => .bad
  | .buildSlice t m parts => match P.underlying t with
    | some (.slice e) => match sizeT P e, zeroT P e with
      | some s, some z => if m * s ≤ 16777216 ∧ 0 < s then .bslice e s m z (parts.toList.map fun p => (p.1, Od.of p.2)) else .bad
      | _, _ => .bad
    | _ => .bad
  | .load t x => match aggT P t, sizeT P t with
    | some g, some s => if g = true ∨ s = 1 then .load g s (Od.of x) else .bad
    | _, _ => .bad
  | .store t x y => match sizeT P t with
    | some s => .store s (Od.of x) (Od.of y)
    | none => .bad
  | .nilCheck x => .nilck (Od.of x)
  | .binOp op t x y _ => match P.underlying t with
    | some (.int _) | some .string => .bin op (Od.of x) (Od.of y)
    | some .bool => .binB op (Od.of x) (Od.of y)
    | _ => .bad
  | .unOp op _ x => .un op (Od.of x)
  | .convert s d x => match P.underlying s, P.underlying d with
    | some (.int _), some (.int k) => .cvi k (Od.of x)
    | some .string, some .string => .cvs (Od.of x)
    | some (.slice e), some .string => match P.underlying e with
      | some (.int .u8) => .bstr (Od.of x)
      | _ => .bad
    | _, _ => .bad
  | .makeFunc (.func f) first captured => if first.isEmpty then .mkf f (captured.toList.map Od.of) else .bad
  | .makeSlice t l c => match P.underlying t with
    | some (.slice e) => match sizeT P e, bytesT P e, zeroT P e with
      | some s, some b, some z => if 0 < s then .mksl e s b z (Od.of l) (Od.of c) else .bad
      | _, _, _ => .bad
    | _ => .bad
  | .slice t x lo hi none => match P.underlying t with
    | some .string => .slcS (Od.of x) (lo.map Od.of) (hi.map Od.of)
    | some (.slice e) => match sizeT P e with
      | some s => .slc s (Od.of x) (lo.map Od.of) (hi.map Od.of)
      | none => .bad
    | _ => .bad
  | .fieldAddr t x i => match P.underlying t with
    | some (.struct fs) => match fs[i]? with
      | some f => match sizeT P f.type with
        | some s => if s = 0 then .bad else .fad f.offset (Od.of x)
        | none => .bad
      | none => .bad
    | _ => .bad
  | .field t x i => match P.underlying t with
    | some (.struct fs) => match fs[i]? with
      | some f => match aggT P f.type, sizeT P f.type with
        | some g, some s => if g = true ∨ s = 1 then .fld g s f.offset (Od.of x) else .bad
        | _, _ => .bad
      | none => .bad
    | _ => .bad
  | .indexAddr t x i => match P.underlying t with
    | some (.slice e) => match sizeT P e with
      | some s => .iad s (Od.of x) (Od.of i)
      | none => .bad
    | _ => .bad
  | .index t x i => match P.underlying t with
    | some .string => .ixs (Od.of x) (Od.of i)
    | some (.array n e) => match aggT P e, sizeT P e with
      | some g, some s => if g = true ∨ s = 1 then .ixa n g s (Od.of x) (Od.of i) else .bad
      | _, _ => .bad
    | _ => .bad
  | .extract x i => .ext (Od.of x) i
  | .call c => Ins.ofCall P c
  | _ => .bad

def avk : Value → AV
  | .agg _ => .any
  | .tuple _ => .any
  | .bool b => .c (.t true (.v (.bool b)))
  | .int k n => .c (.t true (.v (.int k n)))
  | .string s => .c (.t true (.v (.string s)))
  | .slice a l c => .c (.t true (.v (.slice a l c)))
  | v => .c (.t true (.v v))
def AS.ev (st : AS) : Od → AV
  | .t i => st.get i
  | .k v => avk v
  | .f f => .c (.fn f [])
  | .bad => .any

def AV.bool? : AV → Option Bool
  | .c (.t _ (.v (.bool b))) => some b
  | _ => none
def AV.val? : AV → Option Value
  | .c (.t _ (.v x)) => some x
  | _ => none
def AV.int? : AV → Option Int
  | .c (.t _ (.v (.int _ n))) => some n
  | _ => none
def AV.cells? : AV → Option (List C)
  | .c x => some [x]
  | .agg cs => some cs
  | _ => none
def trees : List C → Option (Bool × List T)
  | [] => some (true, [])
  | .t fr t :: cs => match trees cs with
    | some (fr', ts) => some ((match t with | .v _ => fr' | .w _ => fr' | .sl _ _ => fr && fr'), t :: ts)
    | none => none
  | _ :: _ => none
def need {α : Type} (c : Prop) [Decidable c] (x : Option α) : Option α := if c then x else none
theorem need_pos {α : Type} {c : Prop} [Decidable c] (h : c) (x : Option α) : need c x = x := by simp [need, h]
theorem need_some {α : Type} {c : Prop} [Decidable c] {x : Option α} {y : α} (h : need c x = some y) : c ∧ x = some y := by
  unfold need at h
  split at h
  · exact ⟨‹_›, h⟩
  · cases h
def mkAV (agg : Bool) (cs : List C) : AV :=
  if agg = true then .agg cs else match cs with
    | [c] => .c c
    | _ => .any
def setL {α : Type} (l : List α) (j : Nat) (x : List α) : List α := l.take j ++ x ++ l.drop (j + x.length)
def getE (es : List (List T)) (k : Nat) : List T := es.getD k []
def rep {α : Type} : Nat → α → List α
  | 0, _ => []
  | n + 1, x => x :: rep n x
def scal (x : Value) : AV := .c (.t true (.v x))
def bget (s : ByteArray) (k : Nat) : UInt8 := s.data.toList.getD k 0

def fillC (st : AS) : List C → List (Nat × Nat × Od) → Option (List C)
  | cs, [] => some cs
  | cs, (off, size, x) :: r => match (st.ev x).cells? with
    | some ds => need (ds.length = size ∧ off + size ≤ cs.length) (fillC st (setL cs off ds) r)
    | none => none
def fillT (st : AS) : Bool → List (List T) → List (Nat × Od) → Nat → Option (Bool × List (List T))
  | fr, es, [], _ => some (fr, es)
  | fr, es, (i, x) :: r, size => match (st.ev x).cells? with
    | some ds => match trees ds with
      | some (fr', ts) => need (ds.length = size ∧ i < es.length) (fillT st (fr && fr') (es.set i ts) r size)
      | none => none
    | none => none

def binV : BinOp → Value → Value → Option Value
  | .add, .int k a, .int k' b => need (k = k') (some (.int k (k.wrap (a + b))))
  | .sub, .int k a, .int k' b => need (k = k') (some (.int k (k.wrap (a - b))))
  | .mul, .int k a, .int k' b => need (k = k') (some (.int k (k.wrap (a * b))))
  | .quo, .int k a, .int k' b => need (k = k' ∧ b ≠ 0) (some (.int k (k.wrap (a.tdiv b))))
  | .rem, .int k a, .int k' b => need (k = k' ∧ b ≠ 0) (some (.int k (a.tmod b)))
  | .and, .int k a, .int k' b => need (k = k') (some (.int k (k.wrap (BitVec.ofInt k.bits a &&& BitVec.ofInt k.bits b).toNat)))
  | .or, .int k a, .int k' b => need (k = k') (some (.int k (k.wrap (BitVec.ofInt k.bits a ||| BitVec.ofInt k.bits b).toNat)))
  | .xor, .int k a, .int k' b => need (k = k') (some (.int k (k.wrap (BitVec.ofInt k.bits a ^^^ BitVec.ofInt k.bits b).toNat)))
  | .andNot, .int k a, .int k' b => need (k = k') (some (.int k (k.wrap (BitVec.ofInt k.bits a &&& ~~~ BitVec.ofInt k.bits b).toNat)))
  | .shl, .int k a, .int _ b => need (0 ≤ b) (some (.int k (k.wrap (a * 2 ^ min b.toNat k.bits))))
  | .shr, .int k a, .int _ b => need (0 ≤ b) (some (.int k (a.fdiv (2 ^ min b.toNat k.bits))))
  | .eql, .int k a, .int k' b => need (k = k') (some (.bool (a == b)))
  | .neq, .int k a, .int k' b => need (k = k') (some (.bool (a != b)))
  | .lss, .int k a, .int k' b => need (k = k') (some (.bool (decide (a < b))))
  | .leq, .int k a, .int k' b => need (k = k') (some (.bool (decide (a ≤ b))))
  | .gtr, .int k a, .int k' b => need (k = k') (some (.bool (decide (a > b))))
  | .geq, .int k a, .int k' b => need (k = k') (some (.bool (decide (a ≥ b))))
  | .add, .string a, .string b => need (a.size + b.size ≤ 9223372036854775807) (some (.string (a ++ b)))
  | .eql, .string a, .string b => some (.bool (a.toList == b.toList))
  | .neq, .string a, .string b => some (.bool (!(a.toList == b.toList)))
  | .lss, .string a, .string b => some (.bool (Op.bytesLess a.toList b.toList))
  | .leq, .string a, .string b => some (.bool (Op.bytesLess a.toList b.toList || a.toList == b.toList))
  | .gtr, .string a, .string b => some (.bool (!(Op.bytesLess a.toList b.toList || a.toList == b.toList)))
  | .geq, .string a, .string b => some (.bool (!(Op.bytesLess a.toList b.toList)))
  | _, _, _ => none
def binBV : BinOp → Value → Value → Option Value
  | .eql, .bool a, .bool b => some (.bool (a == b))
  | .neq, .bool a, .bool b => some (.bool (!(a == b)))
  | _, _, _ => none
def unV : UnOp → Value → Option Value
  | .not, .bool b => some (.bool (!b))
  | .neg, .int k n => some (.int k (k.wrap (0 - n)))
  | _, _ => none

def capsOf (st : AS) : List Od → Option (List C)
  | [] => some []
  | x :: r => match st.ev x, capsOf st r with
    | .c c, some l => some (c :: l)
    | _, _ => none

/-- the two bounds of a slice expression, as numbers -/
def bnd (st : AS) (o : Option Od) (dflt : Nat) : Option Int :=
  match o with
  | none => some dflt
  | some x => (st.ev x).int?

def step (i : Ins) (d : Nat) (st : AS) : Option (AS × AV) :=
  match i with
  | .mv x => some (st, st.ev x)
  | .pick c a b => match (st.ev c).bool? with
    | some t => some (st, if t = true then st.ev a else st.ev b)
    | none => none
  | .alloc ty zero => some (st.new d (.bx ty (zero.map fun v => .t true (.v v))), .c (.ptr d 0 0))
  | .box ty x => match (st.ev x).cells? with
    | some cs => some (st.new d (.bx ty (cs.map (kill d))), .c (.ptr d 0 0))
    | none => none
  | .build zero parts => match fillC st (zero.map fun v => .t true (.v v)) parts with
    | some cs => some (st, .agg cs)
    | none => none
  | .bslice ty size len zero parts => match fillT st true (rep len (zero.map .v)) parts size with
    | some (fr, es) => some (st.new d (.tr fr ty size es), .c (.row d 0 len))
    | none => none
  | .load agg size x => match st.ev x with
    | .c (.ptr r k j) => match st.row r with
      | some (.bx _ cs) => need (k = 0 ∧ j + size ≤ cs.length) (some (st, mkAV agg ((cs.drop j).take size)))
      | some (.tr fr _ sz es) => need (k < es.length ∧ j + size ≤ sz) (some (st, mkAV agg ((((getE es k).drop j).take size).map (.t fr))))
      | none => none
    | .c (.elt fr ts) => need (size ≤ ts.length) (some (st, mkAV agg ((ts.take size).map (.t fr))))
    | _ => none
  | .store size x y => match st.ev x, (st.ev y).cells? with
    | .c (.ptr r k j), some ds => match st.row r with
      | some (.bx ty cs) => need (ds.length = size ∧ k = 0 ∧ j + size ≤ cs.length) (some (st.setRow r (.bx ty (setL cs j ds)), .any))
      | some (.tr fr ty sz es) => match trees ds with
        | some (fr', ts) => need (ds.length = size ∧ k < es.length ∧ j + size ≤ sz ∧ (fr = true → fr' = true)) (some (st.setRow r (.tr fr ty sz (es.set k (setL (getE es k) j ts))), .any))
        | none => none
      | none => none
    | _, _ => none
  | .nilck x => match st.ev x with
    | .c (.ptr r k j) => some (st, .c (.ptr r k j))
    | .c (.elt fr ts) => some (st, .c (.elt fr ts))
    | .c (.fn f caps) => some (st, .c (.fn f caps))
    | _ => none
  | .bin op x y => match (st.ev x).val?, (st.ev y).val? with
    | some u, some v => match binV op u v with
      | some r => some (st, scal r)
      | none => none
    | _, _ => none
  | .binB op x y => match (st.ev x).val?, (st.ev y).val? with
    | some u, some v => match binBV op u v with
      | some r => some (st, scal r)
      | none => none
    | _, _ => none
  | .un op x => match (st.ev x).val? with
    | some u => match unV op u with
      | some r => some (st, scal r)
      | none => none
    | none => none
  | .cvi k x => match (st.ev x).int? with
    | some n => some (st, scal (.int k (k.wrap n)))
    | none => none
  | .cvs x => match (st.ev x).val? with
    | some (.string s) => some (st, scal (.string s))
    | _ => none
  | .mkf f caps => match capsOf st caps with
    | some cs => some (st, .c (.fn f cs))
    | none => none
  | .mksl ty size bytes zero l c => match (st.ev l).int?, (st.ev c).int? with
    | some n, some m => need (0 ≤ n ∧ n ≤ m ∧ m * bytes ≤ 140737488355328 ∧ m ≤ 9223372036854775807) (some (st.new d (.tr true ty size (List.replicate n.toNat (zero.map .v))), .c (.row d 0 n.toNat)))
    | _, _ => none
  | .slcS x lo hi => match (st.ev x).val? with
    | some (.string s) => match bnd st lo 0, bnd st hi s.size with
      | some l, some h => need (0 ≤ l ∧ l ≤ h ∧ h ≤ s.size) (some (st, scal (.string (s.extract l.toNat h.toNat))))
      | _, _ => none
    | _ => none
  | .slc size x lo hi => match st.ev x with
    | .c (.row r off n) => match st.row r with
      | some (.tr _ _ sz _) => match bnd st lo 0, bnd st hi n with
        | some l, some h => need (sz = size ∧ 0 ≤ l ∧ l ≤ h ∧ h ≤ n) (some (st, .c (.row r (off + l.toNat) (h.toNat - l.toNat))))
        | _, _ => none
      | _ => none
    | .c (.t fr (.sl sz es)) => match bnd st lo 0, bnd st hi es.length with
      | some l, some h => need (sz = size ∧ 0 ≤ l ∧ l ≤ h ∧ h ≤ es.length) (some (st, .c (.t fr (.sl sz ((es.drop l.toNat).take (h.toNat - l.toNat))))))
      | _, _ => none
    | _ => none
  | .fad off x => match st.ev x with
    | .c (.ptr r k j) => some (st, .c (.ptr r k (j + off)))
    | .c (.elt fr ts) => some (st, .c (.elt fr (ts.drop off)))
    | _ => none
  | .fld agg size off x => match st.ev x with
    | .agg cs => need (off + size ≤ cs.length) (some (st, mkAV agg ((cs.drop off).take size)))
    | _ => none
  | .iad size x i => match st.ev x, (st.ev i).int? with
    | .c (.row r off n), some k => match st.row r with
      | some (.tr _ _ sz _) => need (sz = size ∧ 0 ≤ k ∧ k < n) (some (st, .c (.ptr r (off + k.toNat) 0)))
      | _ => none
    | .c (.t fr (.sl sz es)), some k => need (sz = size ∧ 0 ≤ k ∧ k < es.length) (some (st, .c (.elt fr (getE es k.toNat))))
    | _, _ => none
  | .ixs x i => match (st.ev x).val?, (st.ev i).int? with
    | some (.string s), some k => need (0 ≤ k ∧ k < s.size) (some (st, scal (.int .u8 (bget s k.toNat).toNat)))
    | _, _ => none
  | .ixa len agg size x i => match st.ev x, (st.ev i).int? with
    | .agg cs, some k => need (0 ≤ k ∧ k < len ∧ len * size = cs.length) (some (st, mkAV agg ((cs.drop (k.toNat * size)).take size)))
    | _, _ => none
  | .ext x i => match st.ev x with
    | .tup vs => match vs[i]? with
      | some v => some (st, v)
      | none => none
    | _ => none
  | .len true x => match st.ev x with
    | .c (.t _ (.v (.string s))) => some (st, scal (.int .i64 s.size))
    | _ => none
  | .len false x => match st.ev x with
    | .c (.t _ (.v (.slice _ n _))) => some (st, scal (.int .i64 n))
    | .c (.t _ (.sl _ es)) => some (st, scal (.int .i64 es.length))
    | .c (.row _ _ n) => some (st, scal (.int .i64 n))
    | _ => none
  | .app ty size bytes zero x y =>
    let src : Option (Bool × List (List T)) := match st.ev y with
      | .c (.row r off n) => match st.row r with
        | some (.tr fr _ sz es) => need (sz = size ∧ off + n ≤ es.length) (some (fr, (es.drop off).take n))
        | _ => none
      | .c (.t fr (.sl sz es)) => need (sz = size) (some (fr, es))
      | .c (.t _ (.v (.slice none 0 0))) => some (true, [])
      | .c (.t _ (.v (.string s))) => need (size = 1) (some (true, s.data.toList.map fun b => [.v (.int .u8 b.toNat)]))
      | _ => none
    match src with
    | none => none
    | some (fr', news) => match st.ev x with
      | .c (.row r off n) => match st.row r with
        | some (.tr fr ty' sz es) => need (off = 0 ∧ n = es.length ∧ ty' = ty ∧ sz = size ∧ (n + news.length) * bytes ≤ 140737488355328 ∧ n + news.length ≤ 9223372036854775807 ∧ r < 1000000)
            (some (st.new r (.tr (fr && fr') ty size (es ++ news)), .c (.row r 0 (n + news.length))))
        | _ => none
      | .c (.t _ (.v (.slice none 0 0))) => need (news.length * bytes ≤ 140737488355328 ∧ news.length ≤ 9223372036854775807)
            (some (st.new d (.tr fr' ty size news), .c (.row d 0 news.length)))
      | _ => none
  | .bstr _ => none
  | .call _ _ => none
  | .callv _ _ => none
  | .bad => none
end Go.Eng

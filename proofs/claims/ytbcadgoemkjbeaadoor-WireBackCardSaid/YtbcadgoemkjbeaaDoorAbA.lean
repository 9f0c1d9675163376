/-
  Of the model and an abstract machine without a tape: how its values and memory stand for the model's, and that reading, writing and comparing agree; no condition.
-/
import GoSem.Dispatch
import Derived.Laws.Externs
import Derived.Laws.Cells
import Derived.Laws.IdiomCopy
import Derived.Laws.AppendOwn
import Derived.RowKit
import Derived.Laws.BytesArg
import Derived.Laws.Strings
import Derived.Laws.StructEq
import Derived.ChangeKeysEq

set_option linter.unusedSimpArgs false
set_option linter.unusedVariables false
set_option linter.unusedSectionVars false

/- A deterministic abstract machine for a part of the program's language: values, memory by blocks, operations. -/
namespace Go.Ab

/-- temporaries, as a list that grows where it is written -/
def tg : List Value → Nat → Value
  | [], _ => .tuple #[]
  | a :: _, 0 => a
  | _ :: l, n + 1 => tg l n
def ts : List Value → Nat → Value → List Value
  | [], 0, v => [v]
  | [], n + 1, v => .tuple #[] :: ts [] n v
  | _ :: l, 0, v => v :: l
  | a :: l, n + 1, v => a :: ts l n v

theorem tg_nil (n : Nat) : tg [] n = .tuple #[] := by cases n <;> rfl
theorem tg_ts (l : List Value) (i j : Nat) (v : Value) : tg (ts l i v) j = if j = i then v else tg l j := by
  induction l generalizing i j with
  | nil =>
    induction i generalizing j with
    | zero => cases j <;> simp [ts, tg]
    | succ i ih => cases j with
      | zero => simp [ts, tg]
      | succ j => simp [ts, tg, ih]
  | cons a l ih => cases i <;> cases j <;> simp [ts, tg, ih]

inductive AArg where
  | tmp (i : Nat)
  | cst (v : Value)
  deriving Inhabited

def AArg.ev (t : List Value) : AArg → Value
  | .tmp i => tg t i
  | .cst v => v

inductive ABlock where
  | cells (c : List Value) (fz : Nat)
  | grow (c : List Value) (last : Nat) (fz : Nat) (k : Nat)
  | map (es : List MapEntry) (clock : Nat)
  | siter (s : List UInt8) (pos : Nat)
  | loop (ps : List Nat) (A B : Code) (nt : Nat) (snap : List Value) (st : Nat)
  | dfr (taken : Bool)
  | hole
  deriving Inhabited

structure AHeap where
  bs : List ABlock
  lo : Nat
  deriving Inhabited

def AHeap.push (h : AHeap) (b : ABlock) : AHeap := { h with bs := h.bs ++ [b] }
def AHeap.put (h : AHeap) (i : Nat) (b : ABlock) : AHeap := { h with bs := h.bs.set i b }

def str (l : List UInt8) : Value := .string ⟨⟨l⟩⟩
def okCell : Value → Bool
  | .agg _ | .tuple _ => false
  | _ => true
def cellsOf : Value → List Value
  | .agg cs => cs.toList
  | v => [v]
def adda (a : Addr) (n : Nat) : Addr := { a with off := a.off + n }
def splice (c : List Value) (i : Nat) (vs : List Value) : List Value := c.take i ++ vs ++ c.drop (i + vs.length)

abbrev Old := Nat → Nat → Option Value

/-- n cells from an address on -/
def readN (old : Old) (h : AHeap) (a : Addr) (n : Nat) : Option (List Value) :=
  match a.spot with
  | none => (List.range n).mapM fun i => old a.block (a.off + i)
  | some t => match h.bs[a.block]? with
    | some (.cells c _) => if t = 0 ∧ a.off + n ≤ c.length then some ((c.drop a.off).take n) else none
    | some (.grow c last _ _) => if last < t ∧ t ≤ c.length + 1 ∧ a.off + n + 1 ≤ t then some ((c.drop a.off).take n) else none
    | _ => none
/-- one cell -/
def read1 (old : Old) (h : AHeap) (a : Addr) : Option Value :=
  match a.spot with
  | none => old a.block a.off
  | some t => match h.bs[a.block]? with
    | some (.cells c _) => if t = 0 then c[a.off]? else none
    | some (.grow c last _ _) => if last < t ∧ t ≤ c.length + 1 ∧ a.off + 2 ≤ t then c[a.off]? else none
    | _ => none

def writeN (h : AHeap) (a : Addr) (vs : List Value) : Option AHeap :=
  match a.spot with
  | none => none
  | some t => if a.block < h.lo then none else match h.bs[a.block]? with
    | some (.cells c fz) => if t = 0 ∧ a.off + vs.length ≤ c.length ∧ fz ≠ 0 ∧ vs.all okCell = true then some (h.put a.block (.cells (splice c a.off vs) fz)) else none
    | some (.grow c _ fz k) => if t = c.length + 1 ∧ a.off + vs.length ≤ c.length ∧ fz ≠ 0 ∧ vs.all okCell = true then some (h.put a.block (.grow (splice c a.off vs) c.length fz k)) else none
    | _ => none
def write1 (h : AHeap) (a : Addr) (v : Value) : Option AHeap :=
  match a.spot with
  | none => none
  | some t => if a.block < h.lo then none else match h.bs[a.block]? with
    | some (.cells c fz) => if t = 0 ∧ a.off < c.length ∧ fz ≠ 0 ∧ okCell v = true then some (h.put a.block (.cells (c.set a.off v) fz)) else none
    | some (.grow c _ fz k) => if t = c.length + 1 ∧ a.off < c.length ∧ fz ≠ 0 ∧ okCell v = true then some (h.put a.block (.grow (c.set a.off v) c.length fz k)) else none
    | _ => none

/-- is this header's room open-ended? -/
def isRest (a : Addr) (cap : Nat) : Bool := match a.spot with
  | some (_ + 1) => cap == 0
  | _ => false
def tagOf (a : Addr) : Nat := a.spot.getD 0
def emptySl : Value := .slice (some ⟨0, 0, some 0⟩) 0 0

def kOf (h : AHeap) (b : Nat) : Nat := match h.bs[b]? with
  | some (.grow _ _ _ k) => k
  | _ => 0

def sliceV (h0 : AHeap) (k : Nat) (s : Value) (lo hi mx : Option Int) : Option Value :=
  match s with
  | .slice none _ _ => if lo.getD 0 = 0 ∧ hi.getD 0 = 0 ∧ mx.getD 0 = 0 then some (.slice none 0 0) else none
  | .slice (some a) len cap =>
    let l := lo.getD 0
    let h := hi.getD len
    if isRest a cap then
      if 0 ≤ l ∧ l ≤ h ∧ a.off + h.toNat * k + 1 ≤ tagOf a ∧ kOf h0 a.block = k ∧ 0 < k then
        match mx with
        | none => some (.slice (some (adda a (l.toNat * k))) (h - l).toNat 0)
        | some m => if h ≤ m ∧ a.off + m.toNat * k + 1 ≤ tagOf a then
            if m = l then some emptySl else some (.slice (some (adda a (l.toNat * k))) (h - l).toNat (m - l).toNat)
          else none
      else none
    else
      let m := mx.getD cap
      if 0 ≤ l ∧ l ≤ h ∧ h ≤ m ∧ m ≤ cap then
        if m = l then (if a.spot = none then some (.slice (some a) 0 0) else some emptySl)
        else some (.slice (some (adda a (l.toNat * k))) (h - l).toNat (m - l).toNat)
      else none
  | _ => none

def bytesVals (l : List UInt8) : List Value := l.map fun b => .int .u8 b.toNat
def valsBytes : List Value → Option (List UInt8)
  | [] => some []
  | .int .u8 n :: r => (valsBytes r).map (UInt8.ofNat n.toNat :: ·)
  | _ => none

def valsBytesE : List Value → Option (List UInt8)
  | [] => some []
  | .int .u8 n :: r => if 0 ≤ n ∧ n < 256 then (valsBytesE r).map (UInt8.ofNat n.toNat :: ·) else none
  | _ => none
theorem valsBytesE_spec : ∀ {c : List Value} {l : List UInt8}, valsBytesE c = some l → c = bytesVals l := by
  intro c
  induction c with
  | nil => intro l h; simp only [valsBytesE, Option.some.injEq] at h; subst h; rfl
  | cons a r ih =>
    intro l h
    unfold valsBytesE at h
    split at h
    · rename_i heq; cases heq
    · rename_i n r' heq
      cases heq
      split at h
      · rename_i hn
        cases hr : valsBytesE r with
        | none => rw [hr] at h; cases h
        | some l' =>
          rw [hr] at h
          simp only [Option.map_some, Option.some.injEq] at h
          subst h
          rw [ih hr]
          simp only [bytesVals, List.map_cons, List.cons.injEq, and_true]
          congr 1
          have : (UInt8.ofNat n.toNat).toNat = n.toNat := by simp; omega
          rw [this]; omega
      · cases h
    · cases h
theorem valsBytesE_bytesVals (l : List UInt8) : valsBytesE (bytesVals l) = some l := by
  induction l with
  | nil => rfl
  | cons a l ih =>
    unfold bytesVals at ih ⊢
    have := a.toNat_lt
    simp only [List.map_cons, valsBytesE, ih]
    rw [if_pos ⟨by omega, by omega⟩]
    simp


/-- what is appended or copied: so many elements, their cells -/
def srcLen : Value → Option Nat
  | .slice _ n _ => some n
  | .string s => some s.size
  | _ => none
def srcCells (old : Old) (h : AHeap) (k n : Nat) : Value → Option (List Value)
  | .slice none _ _ => some []
  | .slice (some a) _ _ => readN old h a (n * k)
  | .string s => some (bytesVals (s.data.toList.take n))
  | _ => none

def sizeLim : Nat := 2 ^ 40

def appendNew (h : AHeap) (e k bytes n : Nat) (c : List Value) : Option (Value × AHeap) :=
  if n * bytes ≤ sizeLim ∧ c.all okCell = true ∧ c.length = n * k ∧ 0 < k then
    some (.slice (some ⟨h.bs.length, 0, some (n * k + 1)⟩) n 0, h.push (.grow c 0 (e + 1) k)) else none

def appendV (old : Old) (h : AHeap) (e k bytes : Nat) (s x : Value) : Option (Value × AHeap) :=
  match srcLen x with
  | none => none
  | some n =>
    if n = 0 then (match s with
      | .slice none _ _ => some (s, h)
      | .slice (some a) l c => if isRest a c then some (s, h) else if l ≤ c then some (s, h) else none
      | _ => none) else
    match srcCells old h k n x with
    | none => none
    | some new =>
      match s with
      | .slice none _ _ => appendNew h e k bytes n new
      | .slice (some a) len cap =>
        if isRest a cap then
          if a.block < h.lo then none else
          match h.bs[a.block]? with
          | some (.grow c last fz k') =>
            if tagOf a = c.length + 1 ∧ fz = e + 1 ∧ k' = k ∧ 0 < k ∧ (len + n) * bytes ≤ sizeLim ∧ new.all okCell = true ∧ new.length = n * k then
              if a.off + (len + n) * k ≤ c.length then
                some (.slice (some a) (len + n) 0, h.put a.block (.grow (splice c (a.off + len * k) new) c.length (e + 1) k))
              else if a.off = 0 ∧ len * k ≤ c.length then
                some (.slice (some ⟨a.block, 0, some ((len + n) * k + 1)⟩) (len + n) 0,
                  h.put a.block (.grow (c.take (len * k) ++ new) (if len * k = c.length then last else (len + n) * k) (e + 1) k))
              else none
            else none
          | _ => none
        else if len + n ≤ cap then
          (writeN h (adda a (len * k)) new).map fun h' => (.slice (some a) (len + n) cap, h')
        else match (if len = 0 then some [] else readN old h a (len * k)) with
          | some c => appendNew h e k bytes (len + n) (c ++ new)
          | none => none
      | _ => none

def copyV (old : Old) (h : AHeap) (k : Nat) (d x : Value) : Option (Value × AHeap) :=
  match d, srcLen x with
  | .slice base dl _, some n0 =>
    let n := min n0 dl
    if n = 0 then some (.int .i64 0, h) else
    match srcCells old h k n x, base with
    | some c, some a => if c.length = n * k then (writeN h a c).map fun h' => (.int .i64 n, h') else none
    | _, _ => none
  | _, _ => none

def abinI (op : BinOp) (k : IntKind) (a b : Int) : Option Value :=
  match op with
  | .add => some (.int k (k.wrap (a + b)))
  | .sub => some (.int k (k.wrap (a - b)))
  | .mul => some (.int k (k.wrap (a * b)))
  | .quo => if b = 0 then none else some (.int k (k.wrap (a.tdiv b)))
  | .rem => if b = 0 then none else some (.int k (a.tmod b))
  | .and => some (.int k (k.wrap (BitVec.ofInt k.bits a &&& BitVec.ofInt k.bits b).toNat))
  | .or => some (.int k (k.wrap (BitVec.ofInt k.bits a ||| BitVec.ofInt k.bits b).toNat))
  | .xor => some (.int k (k.wrap (BitVec.ofInt k.bits a ^^^ BitVec.ofInt k.bits b).toNat))
  | .andNot => some (.int k (k.wrap (BitVec.ofInt k.bits a &&& ~~~ BitVec.ofInt k.bits b).toNat))
  | .eql => some (.bool (decide (a = b)))
  | .neq => some (.bool (decide (a ≠ b)))
  | .lss => some (.bool (decide (a < b)))
  | .leq => some (.bool (decide (a ≤ b)))
  | .gtr => some (.bool (decide (b < a)))
  | .geq => some (.bool (decide (b ≤ a)))
  | _ => none
def abinS (op : BinOp) (a b : List UInt8) : Option Value :=
  match op with
  | .add => if a.length + b.length ≤ sizeLim then some (str (a ++ b)) else none
  | .eql => some (.bool (decide (a = b)))
  | .neq => some (.bool (decide (a ≠ b)))
  | .lss => some (.bool (Op.bytesLess a b))
  | .leq => some (.bool (Op.bytesLess a b || decide (a = b)))
  | .gtr => some (.bool (!(Op.bytesLess a b || decide (a = b))))
  | .geq => some (.bool (!Op.bytesLess a b))
  | _ => none
def ashift (op : BinOp) (k : IntKind) (a b : Int) : Option Value :=
  if b < 0 then none else
  match op with
  | .shl => some (.int k (k.wrap (a * 2 ^ min b.toNat k.bits)))
  | .shr => some (.int k (a.fdiv (2 ^ min b.toNat k.bits)))
  | _ => none
def abin (op : BinOp) (x y : Value) : Option Value :=
  match x, y with
  | .int k a, .int k' b => match op with
    | .shl | .shr => ashift op k a b
    | _ => if k = k' then abinI op k a b else none
  | .string a, .string b => abinS op a.data.toList b.data.toList
  | _, _ => none

/-- equality of cells of simple kinds -/
inductive CK where
  | b | i | s
  deriving Inhabited, DecidableEq
def veqK : CK → Value → Value → Option Bool
  | .b, .bool a, .bool b => some (decide (a = b))
  | .i, .int k a, .int k' b => if k = k' then some (decide (a = b)) else none
  | .s, .string a, .string b => some (decide (a.data.toList = b.data.toList))
  | _, _, _ => none
def veqL : List CK → List Value → List Value → Option Bool
  | [], [], [] => some true
  | c :: cs, a :: x, b :: y => match veqK c a b, veqL cs x y with
    | some p, some q => some (p && q)
    | _, _ => none
  | _, _, _ => none
def veq1 : Value → Value → Option Bool
  | .bool a, .bool b => some (decide (a = b))
  | .int k a, .int k' b => if k = k' then some (decide (a = b)) else none
  | .string a, .string b => some (decide (a.data.toList = b.data.toList))
  | _, _ => none
/-- how a type's values are compared -/
inductive EqK where
  | one (c : CK)   -- bools, numbers, texts
  | flat (s : List CK)   -- structs and arrays of these
  | nilP | nilS | nilM | nilF | nilI   -- one side is nil
  | ptr
  deriving Inhabited, DecidableEq
def aeq (e : EqK) (x y : Value) : Option Bool :=
  match e, x, y with
  | .one c, x, y => veqK c x y
  | .flat s, .agg a, .agg b => veqL s a.toList b.toList
  | .nilP, .pointer none, .pointer b => some b.isNone
  | .nilP, .pointer a, .pointer none => some a.isNone
  | .nilS, .slice none _ _, .slice b _ _ => some b.isNone
  | .nilS, .slice a _ _, .slice none _ _ => some a.isNone
  | .nilM, .map none, .map b => some b.isNone
  | .nilM, .map a, .map none => some a.isNone
  | .nilF, .nilFunc, .nilFunc => some true
  | .nilF, .nilFunc, .func _ _ _ => some false
  | .nilF, .func _ _ _, .nilFunc => some false
  | .ptr, .pointer none, .pointer b => some b.isNone
  | .ptr, .pointer a, .pointer none => some a.isNone
  | .ptr, .pointer (some a), .pointer (some b) => if a = b then some true else if a.block = b.block ∧ a.spot = b.spot then some false else none
  | .nilI, .nilIface, .nilIface => some true
  | .nilI, .nilIface, .iface _ _ => some false
  | .nilI, .iface _ _, .nilIface => some false
  | _, _, _ => none

def isNeq : BinOp → Bool
  | .neq => true
  | _ => false

def aun (op : UnOp) (x : Value) : Option Value :=
  match op, x with
  | .neg, .int k n => some (.int k (k.wrap (0 - n)))
  | .xor, .int k n => some (.int k (k.wrap (BitVec.ofInt k.bits (if k.signed then -1 else k.max) ^^^ BitVec.ofInt k.bits n).toNat))
  | .not, .bool b => some (.bool !b)
  | _, _ => none

def asI : Value → Option Int
  | .int _ n => some n
  | _ => none
def optI (t : List Value) : Option AArg → Option (Option Int)
  | none => some none
  | some a => (asI (a.ev t)).map some

def partOk : Value → Bool
  | .tuple _ => false
  | _ => true
def fillCells (cells : List Value) : List (Nat × Nat × Value) → Option (List Value)
  | [] => some cells
  | (off, n, v) :: r =>
    if (cellsOf v).length = n ∧ off + n ≤ cells.length ∧ partOk v = true then fillCells (splice cells off (cellsOf v)) r else none

/-- key kinds of a map -/
def simpleKey : Value → Bool
  | .int _ _ | .string _ | .bool _ => true
  | _ => false
def keyFits : CK → Value → Bool
  | .b, .bool _ | .i, .int _ _ | .s, .string _ => true
  | _, _ => false
def findE (k : Value) : List MapEntry → Nat → Option (Option Nat)
  | [], _ => some none
  | e :: es, i => match veq1 k e.key with
    | some true => some (some i)
    | some false => findE k es (i + 1)
    | none => none
def mapOf (h : AHeap) (r : Nat) : Option (List MapEntry × Nat) :=
  match h.bs[r]? with
  | some (.map es c) => some (es, c)
  | _ => none
def setMap (h : AHeap) (r : Nat) (es : List MapEntry) (c : Nat) : Option AHeap :=
  if r < h.lo then none else some (h.put r (.map es c))

inductive Ext where
  | indexByteStr
  | countStr
  | noEscape
  | makeNoZero (e : TypeId)
  | cas32
  | add32
  | nop (n : Nat)
  deriving Inhabited, DecidableEq

inductive AOp where
  | move (x : AArg)
  | pick (c a b : AArg)
  | box (e : TypeId) (x : AArg)
  | build (zero : List Value) (parts : List (Nat × Nat × AArg))
  | buildSlice (e : TypeId) (zero : List Value) (len : Nat) (parts : List (Nat × Nat × AArg))
  | load1 (x : AArg)
  | loadN (n : Nat) (x : AArg)
  | store1 (a v : AArg)
  | storeN (n : Nat) (a v : AArg)
  | nilCheck (x : AArg)
  | bin (op : BinOp) (x y : AArg)
  | eq (neg : Bool) (e : EqK) (x y : AArg)
  | un (op : UnOp) (x : AArg)
  | convInt (k : IntKind) (x : AArg)
  | convStr (x : AArg)
  | str2bytes (e : TypeId) (x : AArg)
  | bytes2str (x : AArg)
  | rune2str (x : AArg)
  | mkIface (t : TypeId) (x : AArg)
  | mkFunc (f : FuncId) (first cap : List AArg)
  | mkMap
  | mkSlice (e : TypeId) (k bytes : Nat) (zero : List Value) (l c : AArg)
  | sliceStr (x : AArg) (lo hi : Option AArg)
  | sliceSl (k : Nat) (x : AArg) (lo hi mx : Option AArg)
  | sliceArr (k n : Nat) (x : AArg) (lo hi mx : Option AArg)
  | fieldAddr (off : Nat) (x : AArg)
  | field1 (off : Nat) (x : AArg)
  | fieldN (off n : Nat) (x : AArg)
  | idxAddrArr (k len : Nat) (x i : AArg)
  | idxAddrSl (k : Nat) (x i : AArg)
  | idxStr (x i : AArg)
  | idxArr1 (len : Nat) (x i : AArg)
  | idxArrN (len n : Nat) (x i : AArg)
  | lookup (kk : CK) (zero : Value) (ok : Bool) (m k : AArg)
  | mapUpd (kk : CK) (m k v : AArg)
  | mapDel (kk : CK) (m k : AArg)
  | mapClear (m : AArg)
  | rangeStr (x : AArg)
  | nextStr (it : AArg)
  | tassert (t : TypeId) (zero : Value) (ok : Bool) (x : AArg)
  | extract (i : Nat) (x : AArg)
  | len (x : AArg)
  | lenS (x : AArg)
  | lenArr (n : Nat)
  | lenMap (x : AArg)
  | cap (x : AArg)
  | append (e : TypeId) (k bytes : Nat) (s x : AArg)
  | copy (k : Nat) (d x : AArg)
  | min2 (x y : AArg)
  | max2 (x y : AArg)
  | min3 (x y z : AArg)
  | unsafeSliceData (x : AArg)
  | unsafeStr (e : TypeId) (p n : AArg)
  | toUnsafe (x : AArg)
  | fromUnsafe (e : TypeId) (x : AArg)
  | clearS (z : List Value) (x : AArg)
  | call (f : FuncId) (args : List AArg)
  | callv (f : AArg) (args : List AArg)
  | invoke (recv : AArg) (name : String) (args : List AArg)
  | defer (f : AArg) (args : List AArg)
  | deferInvoke (recv : AArg) (name : String) (args : List AArg)
  | bad
  deriving Inhabited

structure AOper where
  dst : Option Nat
  guard : Option (Nat × Bool)
  op : AOp
  un : List Nat := []
  deriving Inhabited

inductive ACode where
  | skip
  | ops (l : List AOper)
  | draw (l : List AOper)
  | seq (a b : ACode)
  | cond (c : AArg) (thn els : ACode)
  | block (id : Nat) (body : ACode)
  | loop (body : ACode)
  | exit (id : Nat)
  | scope (body : ACode)
  | label (l : Nat)
  | goto (l : Nat)
  | ret
  | rfunc (f : AArg) (ps : List Nat) (A B : Code) (nt : Nat)
  | bad
  deriving Inhabited

inductive ARes where
  | tmp (t : Nat)
  | cell1 (a : Nat)
  | cellN (a n : Nat)
  deriving Inhabited

structure AFn where
  body : ACode
  res : List ARes
  mode : Nat
  deriving Inhabited

inductive AFunc where
  | fn (f : AFn)
  | ext (e : Ext)
  deriving Inhabited

structure Ctx where
  old : Old
  T : FuncId → Option AFunc
  meth : TypeId → String → Option FuncId
  lies : TypeId → Nat → Nat → TypeId → Bool := fun _ _ _ _ => false
  cc : Nat → Code → ACode := fun _ _ => .bad

def part1 (x : Value) (off : Nat) : Option Value := match x with
  | .agg cs => cs.toList[off]?
  | _ => none
def partN (x : Value) (off n : Nat) : Option Value := match x with
  | .agg cs => if off + n ≤ cs.toList.length then some (.agg ⟨(cs.toList.drop off).take n⟩) else none
  | _ => none

def utf8At (s : List UInt8) (pos : Nat) : Nat × Nat := Utf8.decode ⟨⟨s⟩⟩ pos

def ptrOf : Value → Option Addr
  | .pointer (some a) => some a
  | _ => none

def nilOk : Value → Bool
  | .pointer (some _) | .iface _ _ | .func (.func _) _ _ => true
  | _ => false

def mm (mx : Bool) : Value → Value → Option Value
  | .int k x, .int _ y => some (.int k (if mx then (if x < y then y else x) else (if y < x then y else x)))
  | _, _ => none

def zeroFill (zero : List Value) (n : Nat) : List Value := (List.replicate n zero).flatten

def aexec (C : Ctx) (t : List Value) (h : AHeap) : AOp → Option (Value × AHeap)
  | .move x => some (x.ev t, h)
  | .pick c a b => match c.ev t with
    | .bool true => some (a.ev t, h)
    | .bool false => some (b.ev t, h)
    | _ => none
  | .box e x => if (cellsOf (x.ev t)).all okCell = true then
      some (.pointer (some ⟨h.bs.length, 0, some 0⟩), h.push (.cells (cellsOf (x.ev t)) (e + 1))) else none
  | .build zero parts => (fillCells zero (parts.map fun (o, n, x) => (o, n, x.ev t))).map fun c => (.agg ⟨c⟩, h)
  | .buildSlice e zero len parts => match fillCells zero (parts.map fun (o, n, x) => (o, n, x.ev t)) with
    | some c => if c.all okCell = true then
        (if len = 0 then some (emptySl, h) else some (.slice (some ⟨h.bs.length, 0, some 0⟩) len len, h.push (.cells c (e + 1)))) else none
    | none => none
  | .load1 x => match ptrOf (x.ev t) with
    | some a => (read1 C.old h a).map fun v => (v, h)
    | none => none
  | .loadN n x => match ptrOf (x.ev t) with
    | some a => (readN C.old h a n).map fun c => (.agg ⟨c⟩, h)
    | none => none
  | .store1 x v => match ptrOf (x.ev t) with
    | some a => (write1 h a (v.ev t)).map fun h' => (.tuple #[], h')
    | none => none
  | .storeN n x v => match ptrOf (x.ev t) with
    | some a => if (cellsOf (v.ev t)).length = n then (writeN h a (cellsOf (v.ev t))).map fun h' => (.tuple #[], h') else none
    | none => none
  | .nilCheck x => if nilOk (x.ev t) then some (x.ev t, h) else none
  | .bin op x y => (abin op (x.ev t) (y.ev t)).map fun v => (v, h)
  | .eq neg e x y => (aeq e (x.ev t) (y.ev t)).map fun b => (.bool (if neg then !b else b), h)
  | .un op x => (aun op (x.ev t)).map fun v => (v, h)
  | .convInt k x => (asI (x.ev t)).map fun n => (.int k (k.wrap n), h)
  | .convStr x => match x.ev t with
    | .string s => some (.string s, h)
    | _ => none
  | .str2bytes e x => match x.ev t with
    | .string s => if s.size ≤ sizeLim then some (.slice (some ⟨h.bs.length, 0, some (s.size + 1)⟩) s.size 0, h.push (.grow (bytesVals s.data.toList) 0 (e + 1) 1)) else none
    | _ => none
  | .bytes2str x => match x.ev t with
    | .slice none _ _ => some (str [], h)
    | .slice (some a) n _ => if n = 0 then some (str [], h) else match (readN C.old h a n).bind valsBytes with
      | some l => some (str l, h)
      | none => none
    | _ => none
  | .rune2str x => match x.ev t with
    | .int _ n => some (.string (Utf8.encode n), h)
    | _ => none
  | .mkIface ty x => some (.iface ty (x.ev t), h)
  | .mkFunc f first cap => some (.func (.func f) ⟨first.map (·.ev t)⟩ ⟨cap.map (·.ev t)⟩, h)
  | .mkMap => some (.map (some h.bs.length), h.push (.map [] 0))
  | .mkSlice e k bytes zero l c => match asI (l.ev t), asI (c.ev t) with
    | some l, some c =>
      if 0 ≤ l ∧ l ≤ c ∧ c * bytes ≤ sizeLim ∧ c ≤ sizeLim ∧ zero.length = k ∧ zero.all okCell = true then
        (if c = 0 then some (emptySl, h) else some (.slice (some ⟨h.bs.length, 0, some 0⟩) l.toNat c.toNat, h.push (.cells (zeroFill zero c.toNat) (e + 1)))) else none
    | _, _ => none
  | .sliceStr x lo hi => match x.ev t, optI t lo, optI t hi with
    | .string s, some lo, some hi =>
      let l := lo.getD 0
      let u := hi.getD s.size
      if 0 ≤ l ∧ l ≤ u ∧ u ≤ s.size then some (str ((s.data.toList.drop l.toNat).take (u.toNat - l.toNat)), h) else none
    | _, _, _ => none
  | .sliceSl k x lo hi mx => match optI t lo, optI t hi, optI t mx with
    | some lo, some hi, some mx => (sliceV h k (x.ev t) lo hi mx).map fun v => (v, h)
    | _, _, _ => none
  | .sliceArr k n x lo hi mx => match ptrOf (x.ev t), optI t lo, optI t hi, optI t mx with
    | some a, some lo, some hi, some mx => if n = 0 then none else (sliceV h k (.slice (some a) n n) lo hi mx).map fun v => (v, h)
    | _, _, _, _ => none
  | .fieldAddr off x => match ptrOf (x.ev t) with
    | some a => some (.pointer (some (adda a off)), h)
    | none => none
  | .field1 off x => (part1 (x.ev t) off).map fun v => (v, h)
  | .fieldN off n x => (partN (x.ev t) off n).map fun v => (v, h)
  | .idxAddrArr k len x i => match ptrOf (x.ev t), asI (i.ev t) with
    | some a, some i => if 0 ≤ i ∧ i < len then some (.pointer (some (adda a (i.toNat * k))), h) else none
    | _, _ => none
  | .idxAddrSl k x i => match x.ev t, asI (i.ev t) with
    | .slice (some a) len _, some i => if 0 ≤ i ∧ i < len then some (.pointer (some (adda a (i.toNat * k))), h) else none
    | _, _ => none
  | .idxStr x i => match x.ev t, asI (i.ev t) with
    | .string s, some i => if 0 ≤ i then (match s.data.toList[i.toNat]? with
      | some b => some (.int .u8 b.toNat, h)
      | none => none) else none
    | _, _ => none
  | .idxArr1 len x i => match asI (i.ev t) with
    | some i => if 0 ≤ i ∧ i < len then (part1 (x.ev t) i.toNat).map fun v => (v, h) else none
    | none => none
  | .idxArrN len n x i => match asI (i.ev t) with
    | some i => if 0 ≤ i ∧ i < len then (partN (x.ev t) (i.toNat * n) n).map fun v => (v, h) else none
    | none => none
  | .lookup kk zero ok m k =>
    if keyFits kk (k.ev t) then
      match m.ev t with
      | .map none => some (if ok then .tuple #[zero, .bool false] else zero, h)
      | .map (some r) => match mapOf h r with
        | some (es, _) => match findE (k.ev t) es 0 with
          | some (some i) => (es[i]?).map fun e => (if ok then .tuple #[e.val, .bool true] else e.val, h)
          | some none => some (if ok then .tuple #[zero, .bool false] else zero, h)
          | none => none
        | none => none
      | _ => none
    else none
  | .mapUpd kk m k v =>
    if keyFits kk (k.ev t) then
      match m.ev t with
      | .map (some r) => match mapOf h r with
        | some (es, c) => match findE (k.ev t) es 0 with
          | some (some i) => (setMap h r (es.modify i fun e => { e with val := v.ev t }) c).map fun h' => (.tuple #[], h')
          | some none => (setMap h r (es ++ [{ key := k.ev t, val := v.ev t, born := c }]) (c + 1)).map fun h' => (.tuple #[], h')
          | none => none
        | none => none
      | _ => none
    else none
  | .mapDel kk m k =>
    if keyFits kk (k.ev t) then
      match m.ev t with
      | .map none => some (.tuple #[], h)
      | .map (some r) => match mapOf h r with
        | some (es, c) => match findE (k.ev t) es 0 with
          | some (some i) => (setMap h r (es.eraseIdx i) c).map fun h' => (.tuple #[], h')
          | some none => (setMap h r es c).map fun h' => (.tuple #[], h')
          | none => none
        | none => none
      | _ => none
    else none
  | .mapClear m => match m.ev t with
    | .map none => some (.tuple #[], h)
    | .map (some r) => match mapOf h r with
      | some (_, c) => (setMap h r [] c).map fun h' => (.tuple #[], h')
      | none => none
    | _ => none
  | .rangeStr x => match x.ev t with
    | .string s => some (.pointer (some ⟨h.bs.length, 0, some 0⟩), h.push (.siter s.data.toList 0))
    | _ => none
  | .nextStr it => match it.ev t with
    | .pointer (some ⟨r, 0, some 0⟩) => match h.bs[r]? with
      | some (.siter s pos) =>
        if pos < s.length then
          (if r < h.lo then none else
          some (.tuple #[.bool true, .int .i64 pos, .int .i32 (utf8At s pos).1], h.put r (.siter s (pos + (utf8At s pos).2))))
        else some (.tuple #[.bool false], h)
      | _ => none
    | _ => none
  | .tassert ty zero ok x => match x.ev t with
    | .iface ty' v => if ty' = ty then some (if ok then .tuple #[v, .bool true] else v, h) else if ok then some (.tuple #[zero, .bool false], h) else none
    | .nilIface => if ok then some (.tuple #[zero, .bool false], h) else none
    | _ => none
  | .extract i x => match x.ev t with
    | .tuple vs => (vs.toList[i]?).map fun v => (v, h)
    | _ => none
  | .len x => match x.ev t with
    | .slice _ n _ => some (.int .i64 n, h)
    | _ => none
  | .lenS x => match x.ev t with
    | .string s => some (.int .i64 s.size, h)
    | _ => none
  | .lenArr n => some (.int .i64 n, h)
  | .lenMap x => match x.ev t with
    | .map none => some (.int .i64 0, h)
    | .map (some r) => (mapOf h r).map fun (es, _) => (.int .i64 es.length, h)
    | _ => none
  | .cap x => match x.ev t with
    | .slice none _ _ => some (.int .i64 0, h)
    | .slice (some a) _ c => if isRest a c then none else some (.int .i64 c, h)
    | _ => none
  | .append e k bytes s x => appendV C.old h e k bytes (s.ev t) (x.ev t)
  | .copy k d x => copyV C.old h k (d.ev t) (x.ev t)
  | .min2 x y => (mm false (x.ev t) (y.ev t)).map fun v => (v, h)
  | .max2 x y => (mm true (x.ev t) (y.ev t)).map fun v => (v, h)
  | .min3 x y z => ((mm false (x.ev t) (y.ev t)).bind fun v => mm false v (z.ev t)).map fun v => (v, h)
  | .unsafeSliceData x => match x.ev t with
    | .slice none _ _ => some (.pointer none, h)
    | .slice (some a) _ c => if isRest a c then (if a.off + 2 ≤ tagOf a then some (.pointer (some a), h) else none) else if c = 0 then none else some (.pointer (some a), h)
    | _ => none
  | .unsafeStr e p n => match p.ev t, n.ev t with
    | .pointer none, .int .i64 0 => some (str [], h)
    | .pointer (some ⟨b, 0, some tag⟩), .int .i64 n =>
      if n = 0 then some (str [], h) else
      if 0 < n ∧ n ≤ sizeLim then
        match (readN C.old h ⟨b, 0, some tag⟩ n.toNat).bind valsBytesE, h.bs[b]? with
        | some l, some (.grow c last fz k) => if b < h.lo ∨ fz ≠ e + 1 ∨ k ≠ 1 then none else some (str l, h.put b (.grow c last 0 k))
        | _, _ => none
      else none
    | _, _ => none
  | .toUnsafe x => match x.ev t with
    | .pointer none => some (.pointer none, h)
    | .pointer (some a) => match a.spot, h.bs[a.block]? with
      | some 0, some (.cells c _) => if a.off < c.length then some (.pointer (some a), h) else none
      | _, _ => none
    | _ => none
  | .fromUnsafe e x => match x.ev t with
    | .pointer none => some (.pointer none, h)
    | .pointer (some a) => match a.spot, h.bs[a.block]? with
      | some 0, some (.cells c fz) => if fz ≠ 0 ∧ a.off < c.length ∧ C.lies (fz - 1) c.length a.off e = true then some (.pointer (some a), h) else none
      | _, _ => none
    | _ => none
  | .clearS z x => match x.ev t with
    | .slice none _ _ => some (.tuple #[], h)
    | .slice (some a) l _ => if l = 0 then some (.tuple #[], h) else (writeN h a (zeroFill z l)).map fun h' => (.tuple #[], h')
    | _ => none
  | .call .. | .callv .. | .invoke .. | .defer .. | .deferInvoke .. | .bad => none

end Go.Ab

/- The abstract machine's runs. -/
namespace Go.Ab

def putD (t : List Value) : Option Nat → Value → List Value
  | some d, v => ts t d v
  | none, _ => t

structure ADefer where
  f : FuncId
  args : List Value
  deriving Inhabited

inductive AItem where
  | code (c : ACode)
  | ops (l : List AOper)
  | inBlock (id : Nat)
  | inLoop (c : ACode)
  | inScope (c : ACode)
  | beginRound (b : Nat)
  | endRound
  deriving Inhabited

abbrev Res := Option (Value × AHeap)
abbrev K := List ARes → List AItem → List Value → List ADefer → AHeap → Res

def isUnd : Value → Bool
  | .tuple ⟨[]⟩ => true
  | _ => false
def flat1 : Value → Bool
  | .pointer (some a) => a.spot.isNone
  | .slice (some a) _ _ => a.spot.isNone
  | .bool _ | .int _ _ | .string _ | .float _ _ | .nilIface | .nilFunc | .pointer none | .slice none 0 0 | .map none => true
  | _ => false
def flat2 : Value → Bool
  | .agg cs => cs.toList.all flat1
  | v => flat1 v
def flat : Value → Bool
  | .tuple vs => vs.toList.all flat2
  | v => flat2 v

def extExec (C : Ctx) (e : Ext) (args : List Value) (h : AHeap) : Res :=
  match e, args with
  | .indexByteStr, [.string s, .int .u8 c] =>
    some (.int .i64 (firstIdx s c.toNat.toUInt8), h)
  | .countStr, [.string s, .int .u8 c] => some (.int .i64 (s.foldl (fun n x => if x == c.toNat.toUInt8 then n + 1 else n) ((0 : Nat) : Int)), h)
  | .noEscape, [x] => if isUnd x then none else some (x, h)
  | .makeNoZero e, [.int .i64 n] =>
    if 0 ≤ n ∧ n ≤ sizeLim then some (.slice (some ⟨h.bs.length, 0, some (n.toNat + 1)⟩) n.toNat 0, h.push (.grow (List.replicate n.toNat (.tuple #[])) 0 (e + 1) 1)) else none
  | .cas32, [.pointer (some a), .int .i32 o, .int .i32 n] => match read1 C.old h a with
    | some (.int .i32 x) => if x = o then (write1 h a (.int .i32 n)).map fun h' => (.bool true, h') else none
    | _ => none
  | .add32, [.pointer (some a), .int .i32 n] => match read1 C.old h a with
    | some (.int .i32 x) => (write1 h a (.int .i32 (IntKind.i32.wrap (x + n)))).map fun h' => (.int .i32 (IntKind.i32.wrap (x + n)), h')
    | _ => none
  | .nop 0, [] => some (.tuple #[], h)
  | .nop 1, [.pointer (some _)] => some (.tuple #[], h)
  | _, _ => none

/-- numbers that no function of a program bears: a loop's round, and what a loop has deferred -/
abbrev fYield : FuncId := 4294967296
abbrev fTake : FuncId := 4294967297
def bindPs : List (Nat × Value) → List Value → List Value
  | [], t => t
  | (p, v) :: l, t => bindPs l (ts t p v)
/-- how a round ended, for the loop's record -/
def stOf : Value → Option Nat
  | .int .i64 0 => some 0
  | .int .i64 (.ofNat (n + 1)) => some (n + 4)
  | .tuple ⟨[]⟩ => some 1
  | _ => none
/-- a round of a range over a function; the last argument is its record -/
def roundIn (args : List Value) (h : AHeap) : Option (Nat × Nat × Code × Code × List Value) :=
  match args.reverse with
  | .pointer (some ⟨b, 0, some 0⟩) :: r =>
    match h.bs[b]? with
    | some (.loop ps A B nt snap 0) => if h.lo ≤ b ∧ r.length = ps.length ∧ r.any isUnd = false then some (b, nt, A, B, bindPs (ps.zip r.reverse) snap) else none
    | _ => none
  | _ => none
/-- the record of a round that begins -/
def roundBegin (b : Nat) (h : AHeap) : Option AHeap :=
  match h.bs[b]? with
  | some (.loop ps A B nt snap 0) => if h.lo ≤ b then some (h.put b (.loop ps A B nt snap 2)) else none
  | _ => none
def roundEnd (b : Nat) (v : Value) (h : AHeap) : Res :=
  match stOf v, h.bs[b]? with
  | some st, some (.loop ps A B nt snap 2) => some (.bool (st == 0), h.put b (.loop ps A B nt snap st))
  | _, _ => none
def isBad : ACode → Bool
  | .bad => true
  | _ => false
def doRound (C : Ctx) (go : K) (args : List Value) (h : AHeap) : Res :=
  match roundIn args h with
  | some (b, nt, A, B, t) => if isBad (C.cc nt A) || isBad (C.cc nt B) then none else match go [] [.code (C.cc nt A), .beginRound b, .code (C.cc nt B), .endRound] t [] h with
    | some (v, h') => roundEnd b v h'
    | none => none
  | none => none
def doTake (args : List Value) (h : AHeap) : Res :=
  match args with
  | [.pointer (some ⟨b, 0, some 0⟩)] => match h.bs[b]? with
    | some (.dfr false) => if h.lo ≤ b then some (.tuple #[], h.put b (.dfr true)) else none
    | _ => none
  | _ => none

def doCall (C : Ctx) (go : K) (f : FuncId) (args : List Value) (h : AHeap) : Res :=
  match C.T f with
  | none => if f = fYield then doRound C go args h else if f = fTake then doTake args h else none
  | some (.ext e) => extExec C e args h
  | some (.fn fn) =>
    match fn.mode with
    | 0 => go fn.res [.code fn.body] args [] h
    | 1 => match go fn.res [.code fn.body] args [] { h with lo := h.bs.length } with
      | some (v, h') => some (v, { h' with lo := h.lo })
      | none => none
    | 2 => match go fn.res [.code fn.body] args [] { h with lo := h.bs.length } with
      | some (v, _) => if flat v then some (v, h) else none
      | none => none
    | _ => if args.all flat then (match go fn.res [.code fn.body] args [] { bs := [], lo := 0 } with
      | some (v, _) => if flat v then some (v, h) else none
      | none => none) else none

def okArgs (f : FuncId) (l : List Value) : Option (FuncId × List Value) := if l.any isUnd then none else some (f, l)
/-- whom a call calls, and with what -/
def target (C : Ctx) (t : List Value) : AOp → Option (FuncId × List Value)
  | .call f args => okArgs f (args.map (·.ev t))
  | .callv f args => match f.ev t with
    | .func (.func f) first cap => okArgs f (first.toList ++ args.map (·.ev t) ++ cap.toList)
    | _ => none
  | .defer f args => match f.ev t with
    | .func (.func f) first cap => match C.T f with
      | some (.fn _) => okArgs f (first.toList ++ args.map (·.ev t) ++ cap.toList)
      | _ => none
    | _ => none
  | .invoke x name args => match x.ev t with
    | .iface ty v => match C.meth ty name with
      | some f => okArgs f (v :: args.map (·.ev t))
      | none => none
    | _ => none
  | _ => none

inductive OpK where
  | plain | call | defer
  deriving DecidableEq
def opK : AOp → OpK
  | .call .. | .callv .. | .invoke .. => .call
  | .defer .. | .deferInvoke .. => .defer
  | _ => .plain

def wantedA (t : List Value) : Option (Nat × Bool) → Bool
  | none => true
  | some (g, w) => match tg t g with
    | .bool b => b == w
    | _ => false

def aexitTo (id : Nat) : List AItem → Option (List AItem)
  | .inBlock id' :: k => if id' = id then some k else aexitTo id k
  | _ :: k => aexitTo id k
  | [] => none
def afindLabel : ACode → Nat → Option ACode
  | .seq a b, l => match afindLabel a l with
    | some rest => some (.seq rest b)
    | none => afindLabel b l
  | .label l', l => if l' = l then some .skip else none
  | _, _ => none
def agotoIn (l : Nat) : List AItem → Option (List AItem)
  | .inScope body :: k => match afindLabel body l with
    | some rest => some (.code rest :: .inScope body :: k)
    | none => agotoIn l k
  | _ :: k => agotoIn l k
  | [] => none

def resV (old : Old) (t : List Value) (h : AHeap) : ARes → Option Value
  | .tmp i => some (tg t i)
  | .cell1 a => match ptrOf (tg t a) with
    | some a => match read1 old h a with
      | some v => if isUnd v then none else some v
      | none => none
    | none => none
  | .cellN a n => match ptrOf (tg t a) with
    | some a => (readN old h a n).map fun c => .agg ⟨c⟩
    | none => none
def resultsA (old : Old) (rs : List ARes) (t : List Value) (h : AHeap) : Option Value :=
  match rs.mapM (resV old t h) with
  | some [v] => some v
  | some l => some (.tuple ⟨l⟩)
  | none => none

def fin (C : Ctx) (go : K) (rs : List ARes) (t : List Value) : List ADefer → AHeap → Res
  | [], h => (resultsA C.old rs t h).map fun v => (v, h)
  | d :: ds, h => match doCall C go d.f d.args h with
    | some (_, h') => fin C go rs t ds h'
    | none => none

def resOk (dst : Option Nat) : Res → Res
  | some (v, h) => if dst.isSome && isUnd v then none else some (v, h)
  | none => none
/-- where an operation that calls nobody lays what it yields -/
def pdst (o : AOper) : Option Nat := match opK o.op with
  | .plain => o.dst
  | _ => none
/-- one operation that is no deferring one -/
def exec1 (C : Ctx) (go : K) (t : List Value) (h : AHeap) (op : AOp) : Res :=
  match opK op with
  | .plain => aexec C t h op
  | .call => match target C t op with
    | some (f, args) => doCall C go f args h
    | none => none
  | .defer => none

structure Tr where
  o : AOper
  t : List Value
  h : AHeap
  v : Value
  h' : AHeap

def seqRun (C : Ctx) (go : K) : List AOper → List Value → AHeap → Option (List Tr × List Value × AHeap)
  | [], t, h => some ([], t, h)
  | o :: os, t, h =>
    match (if wantedA t o.guard then resOk (pdst o) (exec1 C go t h o.op) else some (.tuple #[], h)) with
    | some (v, h') => (seqRun C go os (putD t o.dst v) h').map fun (tr, r) => (⟨o, t, h, v, h'⟩ :: tr, r)
    | none => none

mutual
def vb : Value → Value → Bool
  | .bool a, .bool b => a == b
  | .int j a, .int k b => j == k && a == b
  | .float j a, .float k b => j == k && a == b
  | .complex j a c, .complex k b d => j == k && a == b && c == d
  | .string a, .string b => a.data.toList == b.data.toList
  | .pointer a, .pointer b => a == b
  | .slice a l c, .slice b m d => a == b && l == m && c == d
  | .map a, .map b => a == b
  | .chan a, .chan b => a == b
  | .func f ⟨x⟩ ⟨y⟩, .func g ⟨u⟩ ⟨v⟩ => f == g && vbL x u && vbL y v
  | .nilFunc, .nilFunc => true
  | .iface t v, .iface u w => t == u && vb v w
  | .nilIface, .nilIface => true
  | .agg ⟨x⟩, .agg ⟨y⟩ => vbL x y
  | .tuple ⟨x⟩, .tuple ⟨y⟩ => vbL x y
  | _, _ => false
def vbL : List Value → List Value → Bool
  | [], [] => true
  | a :: x, b :: y => vb a b && vbL x y
  | _, _ => false
end

mutual
theorem vb_eq : ∀ a b, vb a b = true → a = b := by
  intro a b h
  cases a <;> cases b <;> simp_all [vb]
  case string a b =>
    obtain ⟨⟨a⟩⟩ := a; obtain ⟨⟨b⟩⟩ := b; simp_all
  case func f x y g u v =>
    obtain ⟨x⟩ := x; obtain ⟨y⟩ := y; obtain ⟨u⟩ := u; obtain ⟨v⟩ := v
    have e1 := vbL_eq x u h.1.2
    have e2 := vbL_eq y v h.2
    subst e1; subst e2; simp
  case iface t v u w => exact vb_eq _ _ h.2
  case agg x y =>
    obtain ⟨x⟩ := x; obtain ⟨y⟩ := y
    have e := vbL_eq x y h
    subst e; rfl
  case tuple x y =>
    obtain ⟨x⟩ := x; obtain ⟨y⟩ := y
    have e := vbL_eq x y h
    subst e; rfl
theorem vbL_eq : ∀ a b, vbL a b = true → a = b := by
  intro a b h
  cases a <;> cases b <;> simp_all [vbL]
  exact ⟨vb_eq _ _ h.1, vbL_eq _ _ h.2⟩
end


mutual
theorem vb_self : ∀ a, vb a a = true := by
  intro a
  cases a <;> simp [vb]
  case func f x y =>
    obtain ⟨x⟩ := x; obtain ⟨y⟩ := y
    simp [vbL_self]
  case iface t v => exact vb_self v
  case agg x => obtain ⟨x⟩ := x; exact vbL_self x
  case tuple x => obtain ⟨x⟩ := x; exact vbL_self x
theorem vbL_self : ∀ a, vbL a a = true := by
  intro a
  cases a <;> simp [vbL, vb_self, vbL_self]
end

/-- the same answer on other memory -/
def chk (C : Ctx) (go : K) (x : Tr) (h : AHeap) : Bool :=
  if wantedA x.t x.o.guard then (match exec1 C go x.t h x.o.op with | some (v, _) => vb v x.v | none => false) else true
def stage (tr : List Tr) (h' : AHeap) (j : Nat) : AHeap := match tr[j]? with
  | some y => y.h
  | none => h'
def drawCheck (C : Ctx) (go : K) (tr : List Tr) (h' : AHeap) : Bool :=
  tr.all fun x => x.o.un.all fun j => chk C go x (stage tr h' j)
def drawRun (C : Ctx) (go : K) (l : List AOper) (t : List Value) (h : AHeap) : Option (List Value × AHeap) :=
  match seqRun C go l t h with
  | some (tr, t', h') => if drawCheck C go tr h' then some (t', h') else none
  | none => none

/-- a jump out of a round -/
def inRoundA : List AItem → Bool
  | [] => false
  | [.endRound] => true
  | _ :: k => inRoundA k
/-- no round is run -/
def noRd (go : K) : K := fun rs items t ds h => if inRoundA items then none else go rs items t ds h
def yieldV (b : Nat) : Value := .func (.func fYield) #[] #[.pointer (some ⟨b, 0, some 0⟩)]
/-- a loop over a function: its record, and whom to call -/
def rfCall (C : Ctx) (f : Value) (ps : List Nat) (A B : Code) (nt : Nat) (t : List Value) (h : AHeap) : Option (FuncId × List Value × AHeap) :=
  match f with
  | .func (.func g) first cap => match C.T g with
    | some (.fn _) => match first.toList ++ [yieldV (h.bs.length + 1)] ++ cap.toList with
      | args => if args.any isUnd then none else some (g, args, (h.push (.dfr false)).push (.loop ps A B nt t 0))
    | _ => none
  | _ => none
/-- what stands behind the loop: how it was left -/
def rfDone (b : Nat) (h : AHeap) : Option (Nat × AHeap) :=
  match h.bs[b]? with
  | some (.loop ps A B nt snap st) => if st = 2 ∨ st = 3 then none else some (st, h.put b (.loop ps A B nt snap 3))
  | _ => none
def rfNext (C : Ctx) (self rec : K) (rs : List ARes) (k : List AItem) (t : List Value) (ds : List ADefer) : Nat → AHeap → Res
  | 0, h => self rs k t ds h
  | 1, h => fin C rec rs t ds h
  | n + 4, h => match aexitTo n k with
    | some k' => self rs k' t ds h
    | none => none
  | _, _ => none
def rfStep (C : Ctx) (self rec : K) (rs : List ARes) (f : AArg) (ps : List Nat) (A B : Code) (nt : Nat) (k : List AItem) (t : List Value) (ds : List ADefer) (h : AHeap) : Res :=
  match rfCall C (f.ev t) ps A B nt t h with
  | some (g, args, h1) => match doCall C rec g args h1 with
    | some (_, h2) => match rfDone (h.bs.length + 1) h2 with
      | some (st, h3) => rfNext C self rec rs k t (⟨fTake, [.pointer (some ⟨h.bs.length, 0, some 0⟩)]⟩ :: ds) st h3
      | none => none
    | none => none
  | none => none
/-- one step: 'self' goes on, 'rec' goes on with less fuel -/
def stepM (C : Ctx) (self rec : K) (rs : List ARes) (items : List AItem) (t : List Value) (ds : List ADefer) (h : AHeap) : Res :=
  match items with
  | [] => fin C rec rs t ds h
  | .inBlock _ :: k | .inScope _ :: k => self rs k t ds h
  | .inLoop c :: k => rec rs (.code c :: .inLoop c :: k) t ds h
  | .beginRound b :: k => match roundBegin b h with
    | some h' => self rs k t ds h'
    | none => none
  | .endRound :: k => match k, ds with
    | [], [] => some (.int .i64 0, h)
    | _, _ => none
  | .ops [] :: k => self rs k t ds h
  | .ops (o :: os) :: k =>
    if wantedA t o.guard then
      (match opK o.op with
      | .defer => match target C t o.op with
        | some (f, args) => self rs (.ops os :: k) (putD t o.dst (.tuple #[])) (⟨f, args⟩ :: ds) h
        | none => none
      | _ => match resOk (pdst o) (exec1 C rec t h o.op) with
        | some (v, h') => self rs (.ops os :: k) (putD t o.dst v) ds h'
        | none => none)
    else self rs (.ops os :: k) (putD t o.dst (.tuple #[])) ds h
  | .code c :: k => match c with
    | .skip | .label _ => self rs k t ds h
    | .ops l => self rs (.ops l :: k) t ds h
    | .draw l => match drawRun C (noRd rec) l t h with
      | some (t', h') => self rs k t' ds h'
      | none => none
    | .seq a b => self rs (.code a :: .code b :: k) t ds h
    | .cond c a b => match c.ev t with
      | .bool true => self rs (.code a :: k) t ds h
      | .bool false => self rs (.code b :: k) t ds h
      | _ => none
    | .block id b => self rs (.code b :: .inBlock id :: k) t ds h
    | .loop b => self rs (.code b :: .inLoop b :: k) t ds h
    | .exit id => match aexitTo id k with
      | some k' => self rs k' t ds h
      | none => match ds with
        | [] => if inRoundA k then some (.int .i64 (.ofNat (id + 1)), h) else none
        | _ => none
    | .rfunc f ps A B nt => rfStep C self rec rs f ps A B nt k t ds h
    | .scope b => self rs (.code b :: .inScope b :: k) t ds h
    | .goto l => match agotoIn l k with
      | some k' => rec rs k' t ds h
      | none => none
    | .ret => fin C rec rs t ds h
    | .bad => none

def dead : K := fun _ _ _ _ _ => none

/-- within one stretch: m steps -/
def inner (C : Ctx) (rec : K) : Nat → K
  | 0 => dead
  | m + 1 => stepM C (inner C rec m) rec

def stretch : Nat := 100000
def run (C : Ctx) : Nat → K
  | 0 => dead
  | n + 1 => inner C (run C n) stretch

end Go.Ab

/- The machine's limit: its answers whatever the fuel; the equations that it meets. -/
namespace Go.Ab

def Le (a b : K) : Prop := ∀ rs items t ds h r, a rs items t ds h = some r → b rs items t ds h = some r
theorem Le.refl (a : K) : Le a a := fun _ _ _ _ _ _ h => h
theorem Le.trans {a b c : K} (h : Le a b) (h' : Le b c) : Le a c := fun _ _ _ _ _ _ e => h' _ _ _ _ _ _ (h _ _ _ _ _ _ e)
theorem dead_le (a : K) : Le dead a := fun _ _ _ _ _ _ h => by simp [dead] at h

theorem doRound_mono {C : Ctx} {a b : K} (hab : Le a b) {args : List Value} {h : AHeap} {r : Value × AHeap} (e : doRound C a args h = some r) : doRound C b args h = some r := by
  unfold doRound at e ⊢
  cases hr : roundIn args h with
  | none => rw [hr] at e; cases e
  | some p =>
    obtain ⟨i, nt, A, B, t⟩ := p
    rw [hr] at e
    simp only at e ⊢
    by_cases hb : (isBad (C.cc nt A) || isBad (C.cc nt B)) = true
    · rw [if_pos hb] at e; cases e
    rw [if_neg hb] at e ⊢
    split at e
    · rename_i v h' he
      rw [hab _ _ _ _ _ _ he]; exact e
    · cases e
theorem doCall_mono {C : Ctx} {a b : K} (hab : Le a b) {f : FuncId} {args : List Value} {h : AHeap} {r : Value × AHeap}
    (e : doCall C a f args h = some r) : doCall C b f args h = some r := by
  unfold doCall at e ⊢
  cases hT : C.T f with
  | none =>
    rw [hT] at e
    simp only at e ⊢
    split at e
    · rename_i hf
      rw [if_pos hf]; exact doRound_mono hab e
    · rename_i hf
      rw [if_neg hf]; exact e
  | some fu =>
    rw [hT] at e
    cases fu with
    | ext x => exact e
    | fn fn =>
      simp only at e ⊢
      split at e
      · exact hab _ _ _ _ _ _ e
      · split at e
        · rename_i v h' he
          rw [hab _ _ _ _ _ _ he]; exact e
        · cases e
      · split at e
        · rename_i v h' he
          rw [hab _ _ _ _ _ _ he]; exact e
        · cases e
      · by_cases hfl : args.all flat = true
        · rw [if_pos hfl] at e ⊢
          split at e
          · rename_i v h' he
            rw [hab _ _ _ _ _ _ he]; exact e
          · cases e
        · rw [if_neg hfl] at e; cases e

theorem fin_mono {C : Ctx} {a b : K} (hab : Le a b) {rs : List ARes} {t : List Value} : ∀ {ds : List ADefer} {h : AHeap} {r : Value × AHeap},
    fin C a rs t ds h = some r → fin C b rs t ds h = some r
  | [], h, r, e => e
  | d :: ds, h, r, e => by
    simp only [fin] at e ⊢
    split at e
    · rename_i v h' he
      rw [doCall_mono hab he]; exact fin_mono hab e
    · cases e

theorem exec1_mono {C : Ctx} {a b : K} (hab : Le a b) {t : List Value} {h : AHeap} {op : AOp} {r : Value × AHeap}
    (e : exec1 C a t h op = some r) : exec1 C b t h op = some r := by
  unfold exec1 at e ⊢
  split at e
  · exact e
  · split at e
    · exact doCall_mono hab e
    · cases e
  · cases e

theorem resOk_mono {C : Ctx} {a b : K} (hab : Le a b) {d : Option Nat} {t : List Value} {h : AHeap} {op : AOp} {r : Value × AHeap}
    (e : resOk d (exec1 C a t h op) = some r) : resOk d (exec1 C b t h op) = some r := by
  cases he : exec1 C a t h op with
  | none => rw [he] at e; cases e
  | some p => rw [exec1_mono hab he, ← he]; exact e
theorem chk_mono {C : Ctx} {a b : K} (hab : Le a b) {x : Tr} {h : AHeap} (e : chk C a x h = true) : chk C b x h = true := by
  unfold chk at e ⊢
  split
  · rename_i hw
    rw [if_pos hw] at e
    cases he : exec1 C a x.t h x.o.op with
    | none => rw [he] at e; cases e
    | some p => rw [exec1_mono hab he]; rw [he] at e; exact e
  · rfl
theorem drawCheck_mono {C : Ctx} {a b : K} (hab : Le a b) {tr : List Tr} {h : AHeap} (e : drawCheck C a tr h = true) : drawCheck C b tr h = true := by
  unfold drawCheck at e ⊢
  simp only [List.all_eq_true] at e ⊢
  exact fun x hx j hj => chk_mono hab (e x hx j hj)

theorem seqRun_mono {C : Ctx} {a b : K} (hab : Le a b) : ∀ {l : List AOper} {t : List Value} {h : AHeap} {r : List Tr × List Value × AHeap},
    seqRun C a l t h = some r → seqRun C b l t h = some r
  | [], t, h, r, e => e
  | o :: os, t, h, r, e => by
    simp only [seqRun] at e ⊢
    by_cases hw : wantedA t o.guard = true
    · simp only [hw, if_true] at e ⊢
      cases he : resOk (pdst o) (exec1 C a t h o.op) with
      | none => rw [he] at e; cases e
      | some p =>
        obtain ⟨v, h'⟩ := p
        rw [he] at e
        rw [resOk_mono hab he]
        simp only at e ⊢
        cases hs : seqRun C a os (putD t o.dst v) h' with
        | none => rw [hs] at e; cases e
        | some q => rw [hs] at e; rw [seqRun_mono hab hs]; exact e
    · simp only [hw] at e ⊢
      cases hs : seqRun C a os (putD t o.dst (.tuple #[])) h with
      | none => simp [hs] at e
      | some q => simp [hs] at e; simp [seqRun_mono hab hs, e]

theorem drawRun_mono {C : Ctx} {a b : K} (hab : Le a b) {l : List AOper} {t : List Value} {h : AHeap} {r : List Value × AHeap}
    (e : drawRun C a l t h = some r) : drawRun C b l t h = some r := by
  unfold drawRun at e ⊢
  cases hs : seqRun C a l t h with
  | none => rw [hs] at e; cases e
  | some q =>
    rw [hs] at e; rw [seqRun_mono hab hs]
    simp only at e ⊢
    split at e
    · rename_i hc; rw [if_pos (drawCheck_mono hab hc)]; exact e
    · cases e

theorem rfNext_mono {C : Ctx} {s s' a b : K} (hs : Le s s') (hab : Le a b) {rs : List ARes} {k : List AItem} {t : List Value} {ds : List ADefer} {st : Nat} {h : AHeap} {r : Value × AHeap}
    (e : rfNext C s a rs k t ds st h = some r) : rfNext C s' b rs k t ds st h = some r := by
  match st with
  | 0 => exact hs _ _ _ _ _ _ e
  | 1 => exact fin_mono hab e
  | 2 => cases e
  | 3 => cases e
  | n + 4 =>
    simp only [rfNext] at e ⊢
    split at e
    · exact hs _ _ _ _ _ _ e
    · cases e
theorem rfStep_mono {C : Ctx} {s s' a b : K} (hs : Le s s') (hab : Le a b) {rs : List ARes} {f : AArg} {ps : List Nat} {A B : Code} {nt : Nat} {k : List AItem} {t : List Value} {ds : List ADefer} {h : AHeap} {r : Value × AHeap}
    (e : rfStep C s a rs f ps A B nt k t ds h = some r) : rfStep C s' b rs f ps A B nt k t ds h = some r := by
  unfold rfStep at e ⊢
  split at e
  · split at e
    · rename_i v h2 he
      rw [doCall_mono hab he]
      simp only
      split at e
      · exact rfNext_mono hs hab e
      · cases e
    · cases e
  · cases e
theorem noRd_mono {a b : K} (hab : Le a b) : Le (noRd a) (noRd b) := fun rs items t ds h r e => by
  unfold noRd at e ⊢
  split at e
  · cases e
  · rename_i hi
    rw [if_neg hi]; exact hab _ _ _ _ _ _ e
theorem stepM_mono {C : Ctx} {s s' a b : K} (hs : Le s s') (hab : Le a b) : Le (stepM C s a) (stepM C s' b) := by
  intro rs items t ds h r e
  unfold stepM at e ⊢
  split at e
  · exact fin_mono hab e
  · exact hs _ _ _ _ _ _ e
  · exact hs _ _ _ _ _ _ e
  · exact hab _ _ _ _ _ _ e
  · split at e
    · exact hs _ _ _ _ _ _ e
    · cases e
  · exact e
  · exact hs _ _ _ _ _ _ e
  · rename_i o os k
    by_cases hw : wantedA t o.guard = true
    · simp only [hw, if_true] at e ⊢
      cases hk : opK o.op with
      | defer =>
        rw [hk] at e
        simp only at e ⊢
        cases ht : target C t o.op with
        | none => rw [ht] at e; cases e
        | some p => obtain ⟨f, args⟩ := p; rw [ht] at e; exact hs _ _ _ _ _ _ e
      | plain =>
        rw [hk] at e
        simp only at e ⊢
        cases he : resOk (pdst o) (exec1 C a t h o.op) with
        | none => rw [he] at e; cases e
        | some p => obtain ⟨v, h'⟩ := p; rw [he] at e; rw [resOk_mono hab he]; exact hs _ _ _ _ _ _ e
      | call =>
        rw [hk] at e
        simp only at e ⊢
        cases he : resOk (pdst o) (exec1 C a t h o.op) with
        | none => rw [he] at e; cases e
        | some p => obtain ⟨v, h'⟩ := p; rw [he] at e; rw [resOk_mono hab he]; exact hs _ _ _ _ _ _ e
    · simp only [hw] at e ⊢
      exact hs _ _ _ _ _ _ e
  · rename_i c k
    cases c with
    | skip => exact hs _ _ _ _ _ _ e
    | label l => exact hs _ _ _ _ _ _ e
    | ops l => exact hs _ _ _ _ _ _ e
    | draw l =>
      simp only at e ⊢
      cases hd : drawRun C (noRd a) l t h with
      | none => rw [hd] at e; cases e
      | some q => obtain ⟨t', h'⟩ := q; rw [hd] at e; rw [drawRun_mono (noRd_mono hab) hd]; exact hs _ _ _ _ _ _ e
    | seq x y => exact hs _ _ _ _ _ _ e
    | cond c x y =>
      simp only at e ⊢
      split at e
      · exact hs _ _ _ _ _ _ e
      · exact hs _ _ _ _ _ _ e
      · cases e
    | block id x => exact hs _ _ _ _ _ _ e
    | loop x => exact hs _ _ _ _ _ _ e
    | exit id =>
      simp only at e ⊢
      split at e
      · exact hs _ _ _ _ _ _ e
      · exact e
    | rfunc f ps A B nt => exact rfStep_mono hs hab e
    | scope x => exact hs _ _ _ _ _ _ e
    | goto l =>
      simp only at e ⊢
      split at e
      · exact hab _ _ _ _ _ _ e
      · cases e
    | ret => exact fin_mono hab e
    | bad => cases e

/-- one fuel for all -/
def Q (C : Ctx) : Nat → K
  | 0 => dead
  | n + 1 => stepM C (Q C n) (Q C n)
theorem Q_succ (C : Ctx) (n : Nat) : Le (Q C n) (Q C (n + 1)) := by
  induction n with
  | zero => exact dead_le _
  | succ n ih => exact stepM_mono ih ih
theorem Q_mono (C : Ctx) {n m : Nat} (h : n ≤ m) : Le (Q C n) (Q C m) := by
  induction h with
  | refl => exact Le.refl _
  | step _ ih => exact ih.trans (Q_succ C _)

open Classical in
noncomputable def R (C : Ctx) : K := fun rs items t ds h =>
  if e : ∃ r n, Q C n rs items t ds h = some r then some e.choose else none

theorem R_of {C : Ctx} {n : Nat} {rs items t ds h r} (e : Q C n rs items t ds h = some r) : R C rs items t ds h = some r := by
  unfold R
  have hx : ∃ r n, Q C n rs items t ds h = some r := ⟨r, n, e⟩
  rw [dif_pos hx]
  obtain ⟨m, hm⟩ := hx.choose_spec
  have h1 := Q_mono C (Nat.le_max_left n m) _ _ _ _ _ _ e
  have h2 := Q_mono C (Nat.le_max_right n m) _ _ _ _ _ _ hm
  rw [h1] at h2
  exact h2.symm
theorem R_ex {C : Ctx} {rs items t ds h r} (e : R C rs items t ds h = some r) : ∃ n, Q C n rs items t ds h = some r := by
  unfold R at e
  split at e
  · rename_i hx
    cases e
    exact hx.choose_spec
  · cases e
theorem Q_le_R (C : Ctx) (n : Nat) : Le (Q C n) (R C) := fun _ _ _ _ _ _ e => R_of e

section
variable {g : K} {q : Nat → K} (hq : ∀ {n m : Nat}, n ≤ m → Le (q n) (q m)) (hg : ∀ {rs items t ds h r}, g rs items t ds h = some r → ∃ n, q n rs items t ds h = some r)
include hq hg
theorem doRound_exG {C : Ctx} {args h r} (e : doRound C g args h = some r) : ∃ n, doRound C (q n) args h = some r := by
  unfold doRound at e ⊢
  cases hr : roundIn args h with
  | none => rw [hr] at e; cases e
  | some p =>
    obtain ⟨i, nt, A, B, t⟩ := p
    rw [hr] at e
    simp only at e ⊢
    by_cases hb : (isBad (C.cc nt A) || isBad (C.cc nt B)) = true
    · rw [if_pos hb] at e; cases e
    rw [if_neg hb] at e
    split at e
    · rename_i v h' he
      obtain ⟨n, hn⟩ := hg he
      exact ⟨n, by rw [if_neg hb, hn]; exact e⟩
    · cases e
theorem doCall_exG {C : Ctx} {f args h r} (e : doCall C g f args h = some r) : ∃ n, doCall C (q n) f args h = some r := by
  unfold doCall at e ⊢
  cases hT : C.T f with
  | none =>
    rw [hT] at e
    simp only at e ⊢
    split at e
    · rename_i hf
      obtain ⟨n, hn⟩ := doRound_exG hq hg e
      exact ⟨n, by rw [if_pos hf]; exact hn⟩
    · rename_i hf
      exact ⟨0, by rw [if_neg hf]; exact e⟩
  | some fu =>
    rw [hT] at e
    cases fu with
    | ext x => exact ⟨0, e⟩
    | fn fn =>
      simp only at e ⊢
      split at e
      · exact hg e
      · split at e
        · rename_i v h' he
          obtain ⟨n, hn⟩ := hg he
          exact ⟨n, by rw [hn]; exact e⟩
        · cases e
      · split at e
        · rename_i v h' he
          obtain ⟨n, hn⟩ := hg he
          exact ⟨n, by rw [hn]; exact e⟩
        · cases e
      · by_cases hfl : args.all flat = true
        · rw [if_pos hfl] at e
          split at e
          · rename_i v h' he
            obtain ⟨n, hn⟩ := hg he
            exact ⟨n, by rw [if_pos hfl, hn]; exact e⟩
          · cases e
        · rw [if_neg hfl] at e; cases e
theorem fin_exG {C : Ctx} {rs t} : ∀ {ds : List ADefer} {h r}, fin C g rs t ds h = some r → ∃ n, fin C (q n) rs t ds h = some r
  | [], h, r, e => ⟨0, e⟩
  | d :: ds, h, r, e => by
    simp only [fin] at e ⊢
    split at e
    · rename_i v h' he
      obtain ⟨n, hn⟩ := doCall_exG hq hg he
      obtain ⟨m, hm⟩ := fin_exG e
      refine ⟨max n m, ?_⟩
      rw [doCall_mono (hq (Nat.le_max_left n m)) hn]
      exact fin_mono (hq (Nat.le_max_right n m)) hm
    · cases e
theorem exec1_exG {C : Ctx} {t h op r} (e : exec1 C g t h op = some r) : ∃ n, exec1 C (q n) t h op = some r := by
  unfold exec1 at e ⊢
  split at e
  · exact ⟨0, e⟩
  · split at e
    · exact doCall_exG hq hg e
    · cases e
  · cases e
theorem resOk_exG {C : Ctx} {d t h op r} (e : resOk d (exec1 C g t h op) = some r) : ∃ n, resOk d (exec1 C (q n) t h op) = some r := by
  cases he : exec1 C g t h op with
  | none => rw [he] at e; cases e
  | some p => obtain ⟨n, hn⟩ := exec1_exG hq hg he; exact ⟨n, by rw [hn, ← he]; exact e⟩
theorem chk_exG {C : Ctx} {x : Tr} {h : AHeap} (e : chk C g x h = true) : ∃ n, chk C (q n) x h = true := by
  unfold chk at e ⊢
  by_cases hw : wantedA x.t x.o.guard = true
  · simp only [hw, if_true] at e ⊢
    cases he : exec1 C g x.t h x.o.op with
    | none => rw [he] at e; cases e
    | some p => obtain ⟨n, hn⟩ := exec1_exG hq hg he; exact ⟨n, by rw [hn]; rw [he] at e; exact e⟩
  · exact ⟨0, by simp [hw]⟩
omit hq hg in
theorem all_ex {α : Type} {f : Nat → α → Bool} (hm : ∀ n m x, n ≤ m → f n x = true → f m x = true) : ∀ {l : List α}, (∀ x ∈ l, ∃ n, f n x = true) → ∃ n, ∀ x ∈ l, f n x = true
  | [], _ => ⟨0, by simp⟩
  | a :: l, h => by
    obtain ⟨n, hn⟩ := h a (by simp)
    obtain ⟨m, hm'⟩ := all_ex hm (l := l) fun x hx => h x (by simp [hx])
    refine ⟨max n m, fun x hx => ?_⟩
    rcases List.mem_cons.1 hx with rfl | hx
    · exact hm _ _ _ (Nat.le_max_left _ _) hn
    · exact hm _ _ _ (Nat.le_max_right _ _) (hm' x hx)
theorem drawCheck_exG {C : Ctx} {tr : List Tr} {h : AHeap} (e : drawCheck C g tr h = true) : ∃ n, drawCheck C (q n) tr h = true := by
  unfold drawCheck at e ⊢
  simp only [List.all_eq_true] at e ⊢
  refine all_ex (f := fun n (x : Tr) => x.o.un.all fun j => chk C (q n) x (stage tr h j)) (fun n m x hnm hx => ?_) (fun x hx => ?_) |>.imp fun n hn x hx => by simpa using hn x hx
  · simp only [List.all_eq_true] at hx ⊢
    exact fun j hj => chk_mono (hq hnm) (hx j hj)
  · obtain ⟨n, hn⟩ := all_ex (f := fun n j => chk C (q n) x (stage tr h j)) (l := x.o.un) (fun n m j hnm => chk_mono (hq hnm)) fun j hj => chk_exG hq hg (e x hx j hj)
    exact ⟨n, by simp only [List.all_eq_true]; exact hn⟩

theorem seqRun_exG {C : Ctx} : ∀ {l : List AOper} {t h r}, seqRun C g l t h = some r → ∃ n, seqRun C (q n) l t h = some r
  | [], t, h, r, e => ⟨0, e⟩
  | o :: os, t, h, r, e => by
    simp only [seqRun] at e ⊢
    by_cases hw : wantedA t o.guard = true
    · simp only [hw, if_true] at e ⊢
      cases he : resOk (pdst o) (exec1 C g t h o.op) with
      | none => rw [he] at e; cases e
      | some p =>
        obtain ⟨v, h'⟩ := p
        rw [he] at e
        simp only at e
        cases hs : seqRun C g os (putD t o.dst v) h' with
        | none => rw [hs] at e; cases e
        | some q =>
          rw [hs] at e
          obtain ⟨n, hn⟩ := resOk_exG hq hg he
          obtain ⟨m, hm⟩ := seqRun_exG hs
          refine ⟨max n m, ?_⟩
          rw [resOk_mono (hq (Nat.le_max_left n m)) hn]
          simp only
          rw [seqRun_mono (hq (Nat.le_max_right n m)) hm]
          exact e
    · simp only [hw] at e ⊢
      cases hs : seqRun C g os (putD t o.dst (.tuple #[])) h with
      | none => simp [hs] at e
      | some q =>
        obtain ⟨m, hm⟩ := seqRun_exG hs
        exact ⟨m, by simp [hs] at e; simp [hm, e]⟩
theorem drawRun_exG {C : Ctx} {l t h r} (e : drawRun C g l t h = some r) : ∃ n, drawRun C (q n) l t h = some r := by
  unfold drawRun at e ⊢
  cases hs : seqRun C g l t h with
  | none => rw [hs] at e; cases e
  | some q =>
    rw [hs] at e
    obtain ⟨n, hn⟩ := seqRun_exG hq hg hs
    obtain ⟨tr, t', h'⟩ := q
    simp only at e
    split at e
    · rename_i hc
      obtain ⟨m, hm⟩ := drawCheck_exG hq hg hc
      refine ⟨max n m, ?_⟩
      rw [seqRun_mono (hq (Nat.le_max_left n m)) hn]
      simp only
      rw [if_pos (drawCheck_mono (hq (Nat.le_max_right n m)) hm)]
      exact e
    · cases e

end
theorem doCall_ex {C : Ctx} {f args h r} (e : doCall C (R C) f args h = some r) : ∃ n, doCall C (Q C n) f args h = some r := doCall_exG (Q_mono C) R_ex e
theorem fin_ex {C : Ctx} {rs t} {ds : List ADefer} {h r} (e : fin C (R C) rs t ds h = some r) : ∃ n, fin C (Q C n) rs t ds h = some r := fin_exG (Q_mono C) R_ex e
theorem resOk_ex {C : Ctx} {d t h op r} (e : resOk d (exec1 C (R C) t h op) = some r) : ∃ n, resOk d (exec1 C (Q C n) t h op) = some r := resOk_exG (Q_mono C) R_ex e
theorem noRd_ex {C : Ctx} {rs items t ds h r} (e : noRd (R C) rs items t ds h = some r) : ∃ n, noRd (Q C n) rs items t ds h = some r := by
  unfold noRd at e ⊢
  split at e
  · cases e
  · rename_i hi
    obtain ⟨n, hn⟩ := R_ex e
    exact ⟨n, by rw [if_neg hi]; exact hn⟩
theorem drawRun_ex {C : Ctx} {l t h r} (e : drawRun C (noRd (R C)) l t h = some r) : ∃ n, drawRun C (noRd (Q C n)) l t h = some r := drawRun_exG (g := noRd (R C)) (q := fun n => noRd (Q C n)) (fun h => noRd_mono (Q_mono C h)) noRd_ex e
theorem rfNext_ex {C : Ctx} {rs k t ds st h r} (e : rfNext C (R C) (R C) rs k t ds st h = some r) : ∃ n, rfNext C (Q C n) (Q C n) rs k t ds st h = some r := by
  match st with
  | 0 => exact R_ex e
  | 1 => exact fin_ex e
  | 2 => cases e
  | 3 => cases e
  | n + 4 =>
    simp only [rfNext] at e ⊢
    split at e
    · exact R_ex e
    · cases e
theorem rfStep_ex {C : Ctx} {rs f ps A B nt k t ds h r} (e : rfStep C (R C) (R C) rs f ps A B nt k t ds h = some r) : ∃ n, rfStep C (Q C n) (Q C n) rs f ps A B nt k t ds h = some r := by
  unfold rfStep at e ⊢
  split at e
  · split at e
    · rename_i v h2 he
      obtain ⟨n, hn⟩ := doCall_ex he
      split at e
      · rename_i st h3 hd
        obtain ⟨m, hm⟩ := rfNext_ex e
        refine ⟨max n m, ?_⟩
        rw [doCall_mono (Q_mono C (Nat.le_max_left n m)) hn]
        simp only [hd]
        exact rfNext_mono (Q_mono C (Nat.le_max_right n m)) (Q_mono C (Nat.le_max_right n m)) hm
      · cases e
    · cases e
  · cases e
theorem stepM_ex {C : Ctx} {rs items t ds h r} (e : stepM C (R C) (R C) rs items t ds h = some r) :
    ∃ n, stepM C (Q C n) (Q C n) rs items t ds h = some r := by
  unfold stepM at e ⊢
  split at e
  · exact fin_ex e
  · exact R_ex e
  · exact R_ex e
  · exact R_ex e
  · split at e
    · exact R_ex e
    · cases e
  · exact ⟨0, e⟩
  · exact R_ex e
  · rename_i o os k
    by_cases hw : wantedA t o.guard = true
    · simp only [hw, if_true] at e ⊢
      cases hk : opK o.op with
      | defer =>
        rw [hk] at e
        simp only at e ⊢
        cases ht : target C t o.op with
        | none => rw [ht] at e; cases e
        | some p => obtain ⟨f, args⟩ := p; rw [ht] at e; exact R_ex e
      | plain =>
        rw [hk] at e
        simp only at e ⊢
        cases he : resOk (pdst o) (exec1 C (R C) t h o.op) with
        | none => rw [he] at e; cases e
        | some p =>
          obtain ⟨v, h'⟩ := p
          rw [he] at e
          obtain ⟨n, hn⟩ := resOk_ex he
          obtain ⟨m, hm⟩ := R_ex e
          refine ⟨max n m, ?_⟩
          rw [resOk_mono (Q_mono C (Nat.le_max_left n m)) hn]
          exact Q_mono C (Nat.le_max_right n m) _ _ _ _ _ _ hm
      | call =>
        rw [hk] at e
        simp only at e ⊢
        cases he : resOk (pdst o) (exec1 C (R C) t h o.op) with
        | none => rw [he] at e; cases e
        | some p =>
          obtain ⟨v, h'⟩ := p
          rw [he] at e
          obtain ⟨n, hn⟩ := resOk_ex he
          obtain ⟨m, hm⟩ := R_ex e
          refine ⟨max n m, ?_⟩
          rw [resOk_mono (Q_mono C (Nat.le_max_left n m)) hn]
          exact Q_mono C (Nat.le_max_right n m) _ _ _ _ _ _ hm
    · simp only [hw] at e ⊢
      exact R_ex e
  · rename_i c k
    cases c with
    | skip => exact R_ex e
    | label l => exact R_ex e
    | ops l => exact R_ex e
    | draw l =>
      simp only at e ⊢
      cases hd : drawRun C (noRd (R C)) l t h with
      | none => rw [hd] at e; cases e
      | some q =>
        obtain ⟨t', h'⟩ := q
        rw [hd] at e
        obtain ⟨n, hn⟩ := drawRun_ex hd
        obtain ⟨m, hm⟩ := R_ex e
        refine ⟨max n m, ?_⟩
        rw [drawRun_mono (noRd_mono (Q_mono C (Nat.le_max_left n m))) hn]
        exact Q_mono C (Nat.le_max_right n m) _ _ _ _ _ _ hm
    | seq x y => exact R_ex e
    | cond c x y =>
      simp only at e ⊢
      split at e
      · exact R_ex e
      · exact R_ex e
      · cases e
    | block id x => exact R_ex e
    | loop x => exact R_ex e
    | exit id =>
      simp only at e ⊢
      split at e
      · exact R_ex e
      · exact ⟨0, e⟩
    | rfunc f ps A B nt => exact rfStep_ex e
    | scope x => exact R_ex e
    | goto l =>
      simp only at e ⊢
      split at e
      · exact R_ex e
      · cases e
    | ret => exact fin_ex e
    | bad => cases e

/-- the limit goes by steps -/
theorem R_step (C : Ctx) (rs items t ds h) : R C rs items t ds h = stepM C (R C) (R C) rs items t ds h := by
  cases e : stepM C (R C) (R C) rs items t ds h with
  | some r =>
    obtain ⟨n, hn⟩ := stepM_ex e
    exact R_of (n := n + 1) hn
  | none =>
    cases e' : R C rs items t ds h with
    | none => rfl
    | some r =>
      obtain ⟨n, hn⟩ := R_ex e'
      cases n with
      | zero => simp [Q, dead] at hn
      | succ n =>
        have := stepM_mono (C := C) (Q_le_R C n) (Q_le_R C n) _ _ _ _ _ _ hn
        rw [e] at this; cases this

theorem inner_le {C : Ctx} {rec : K} (h : Le rec (R C)) : ∀ m, Le (inner C rec m) (R C)
  | 0 => dead_le _
  | m + 1 => fun rs items t ds hp r e => by
    rw [R_step]
    exact stepM_mono (inner_le h m) h _ _ _ _ _ _ e
theorem run_le (C : Ctx) : ∀ n, Le (run C n) (R C)
  | 0 => dead_le _
  | n + 1 => inner_le (run_le C n) stretch

noncomputable def D (C : Ctx) (f : FuncId) (args : List Value) (h : AHeap) : Res := doCall C (R C) f args h
/-- what a bounded run tells -/
theorem D_of_run {C : Ctx} {n f args h r} (e : doCall C (run C n) f args h = some r) : D C f args h = some r := doCall_mono (run_le C n) e

end Go.Ab

/- From the model's code to the abstract machine's. -/
namespace Go.Ab

def constOk1 : Value → Bool
  | .bool _ | .int _ _ | .float _ _ | .string _ | .pointer none | .slice none 0 0 | .map none | .nilFunc | .nilIface => true
  | _ => false
mutual
def constOk : Value → Bool
  | .agg ⟨l⟩ => constOkL l
  | .tuple ⟨l⟩ => constOkL l
  | .iface _ v => constOk v
  | v => constOk1 v
def constOkL : List Value → Bool
  | [] => true
  | v :: l => constOk v && constOkL l
end

def cArg : Operand → Option AArg
  | .tmp t => some (.tmp t)
  | .const v => if constOk v then some (.cst v) else none
  | .global g => some (.cst (.pointer (some ⟨g, 0, none⟩)))
  | .func f => if f < fYield then some (.cst (.func (.func f) #[] #[])) else none
def cOpt : Option Operand → Option (Option AArg)
  | none => some none
  | some x => (cArg x).map some

section
variable (P : Program)
def zeroOf (t : TypeId) : Option Value := (P.info? t).bind fun i => i.zero.bind fun z => if constOk z then some z else none
def szOf (t : TypeId) : Option Nat := (P.info? t).map (·.size)
def byOf (t : TypeId) : Option Nat := (P.info? t).map (·.bytes)
def aggT (t : TypeId) : Option Bool := (P.underlying t).map fun d => match d with
  | .struct _ | .array _ _ => true
  | _ => false
def keyT (t : TypeId) : Option CK := match P.underlying t with
  | some (.int _) => some .i
  | some .string => some .s
  | some .bool => some .b
  | _ => none
/-- the kinds of a type's cells, where its values are compared cell by cell -/
def shapeFs (f : TypeId → Option (List CK)) : List Field → Nat → Option (List CK)
  | [], _ => some []
  | x :: r, off => if x.name ≠ "_" ∧ x.offset = off then
      match f x.type with
      | some s => if szOf P x.type = some s.length then (shapeFs f r (off + s.length)).map (s ++ ·) else none
      | none => none
    else none
def shapeT : Nat → TypeId → Option (List CK)
  | 0, _ => none
  | d + 1, t => match P.underlying t with
    | some .bool => some [.b]
    | some (.int _) => some [.i]
    | some .string => some [.s]
    | some (.struct fs) => if P.stoodInHeld t = false ∧ fs.toList.length = fs.size then shapeFs P (shapeT d) fs.toList 0 else none
    | some (.array n e) => match shapeT d e with
      | some s => if szOf P e = some s.length then some (List.replicate n s).flatten else none
      | none => none
    | _ => none
def isIfaceT : TypeDesc → Bool
  | .interface _ => true
  | _ => false
def nilConst : Operand → Bool
  | .const (.pointer none) | .const (.slice none 0 0) | .const (.map none) | .const .nilFunc | .const .nilIface => true
  | _ => false

def cParts (place : Nat → Option (Nat × Nat)) : List (Nat × Operand) → Option (List (Nat × Nat × AArg))
  | [] => some []
  | (i, x) :: r => match place i, cArg x, cParts place r with
    | some (off, n), some a, some l => some ((off, n, a) :: l)
    | _, _, _ => none

def isEq : BinOp → Bool
  | .eql | .neq => true
  | _ => false
def cNil (op : BinOp) (a b : AArg) : TypeDesc → AOp
  | .pointer _ => .eq (isNeq op) .nilP a b
  | .slice _ => .eq (isNeq op) .nilS a b
  | .map _ _ => .eq (isNeq op) .nilM a b
  | .func _ _ _ => .eq (isNeq op) .nilF a b
  | .interface _ => .eq (isNeq op) .nilI a b
  | _ => .bad
def isPtrT : TypeDesc → Bool
  | .pointer _ => true
  | _ => false
def ptrFits : TypeDesc → Bool
  | .pointer el => match szOf P el with
    | some n => n != 0
    | none => false
  | _ => false
def cBin (op : BinOp) (t : TypeId) (x y : Operand) : AOp :=
  match cArg x, cArg y with
  | some a, some b =>
    match P.underlying t with
    | some (.int _) | some .string => .bin op a b
    | some .bool => if isEq op then .eq (isNeq op) (.one .b) a b else .bad
    | some d =>
      if isEq op then
        (if nilConst x || nilConst y then cNil op a b d
        else if isPtrT d then (if ptrFits P d then .eq (isNeq op) .ptr a b else .bad)
        else match shapeT P 50 t, aggT P t with
          | some s, some true => if P.eqGuardType P.depth t = false then .eq (isNeq op) (.flat s) a b else .bad
          | _, _ => .bad)
      else .bad
    | none => .bad
  | _, _ => .bad

def cConv (s d : TypeId) (x : Operand) : AOp :=
  match cArg x with
  | none => .bad
  | some a => match P.underlying s, P.underlying d with
    | some (.int _), some (.int k) => .convInt k a
    | some .string, some .string => .convStr a
    | some (.int _), some .string => .rune2str a
    | some .string, some (.slice e) => match P.underlying e with
      | some (.int .u8) => .str2bytes e a
      | _ => .bad
    | some (.slice e), some .string => match P.underlying e with
      | some (.int .u8) => .bytes2str a
      | _ => .bad
    | some (.pointer el), some .unsafePointer => match szOf P el with
      | some n => if n = 0 then .bad else .toUnsafe a
      | none => .bad
    | some .unsafePointer, some (.pointer u) => match szOf P u with
      | some n => if n = 0 then .bad else .fromUnsafe u a
      | none => .bad
    | _, _ => .bad

def cArgs (l : Array Operand) : Option (List AArg) := l.toList.mapM cArg

def notIntT : TypeDesc → Bool
  | .int _ => false
  | _ => true
def rowOk (e : TypeId) : Bool := szOf P e == some 1
def cBlt (b : Builtin) (ty : TypeId) (args : Array Operand) (ats : Array TypeId) : AOp :=
  match b, args.toList, ats.toList with
  | .len, [x], [t] => match cArg x, P.underlying t with
    | some a, some .string => .lenS a
    | some a, some (.slice _) => .len a
    | some _, some (.array n _) => .lenArr n
    | some _, some (.pointer p) => match P.underlying p with
      | some (.array n _) => .lenArr n
      | _ => .bad
    | some a, some (.map _ _) => .lenMap a
    | _, _ => .bad
  | .cap, [x], [t] => match cArg x, P.underlying t with
    | some a, some (.slice _) => .cap a
    | _, _ => .bad
  | .append, [s, x], [t, u] => match cArg s, cArg x, P.underlying t with
    | some a, some b, some (.slice e) => match szOf P e, byOf P e, P.underlying u, zeroOf P e with
      | some k, some by', some d, some z => if 0 < k ∧ 0 < by' ∧ (cellsOf z).length = k ∧ notIntT d = true then .append e k by' a b else .bad
      | _, _, _, _ => .bad
    | _, _, _ => .bad
  | .copy, [d, x], [t, _] => match cArg d, cArg x, P.underlying t with
    | some a, some b, some (.slice e) => match szOf P e with
      | some k => .copy k a b
      | none => .bad
    | _, _, _ => .bad
  | .delete, [m, k], [t, _] => match cArg m, cArg k, P.underlying t with
    | some a, some b, some (.map kt _) => match keyT P kt with
      | some kk => .mapDel kk a b
      | none => .bad
    | _, _, _ => .bad
  | .clear, [m], [t] => match cArg m, P.underlying t with
    | some a, some (.map _ _) => .mapClear a
    | _, _ => .bad
  | .min, [x, y], _ => match cArg x, cArg y with
    | some a, some b => .min2 a b
    | _, _ => .bad
  | .min, [x, y, z], _ => match cArg x, cArg y, cArg z with
    | some a, some b, some c => .min3 a b c
    | _, _, _ => .bad
  | .max, [x, y], _ => match cArg x, cArg y with
    | some a, some b => .max2 a b
    | _, _ => .bad
  | .unsafeSliceData, [x], _ => match cArg x with
    | some a => .unsafeSliceData a
    | none => .bad
  | .unsafeString, [p, n], [t, _] => match cArg p, cArg n, P.underlying t with
    | some a, some b, some (.pointer e) => if rowOk P e then .unsafeStr e a b else .bad
    | _, _, _ => .bad
  | _, _, _ => let _ := ty; .bad

def cCall (c : Call) (ty : TypeId) (dfr : Bool) : AOp :=
  match c.callee, cArgs c.args with
  | .value (.func f), some l => if f < fYield then (if dfr then .defer (.cst (.func (.func f) #[] #[])) l else .call f l) else .bad
  | .value x, some l => match cArg x with
    | some a => if dfr then .defer a l else .callv a l
    | none => .bad
  | .invoke r name, some l => match cArg r with
    | some a => if dfr then .deferInvoke a name l else .invoke a name l
    | none => .bad
  | .builtin b, _ => if dfr then .bad else cBlt P b ty c.args c.argTypes
  | _, none => .bad

def cOp (o : Oper) : AOp :=
  match o.op with
  | .move x | .assign x => match cArg x with
    | some a => .move a
    | none => .bad
  | .pick c a b => match cArg c, cArg a, cArg b with
    | some c, some a, some b => .pick c a b
    | _, _, _ => .bad
  | .alloc e => match zeroOf P e with
    | some z => .box e (.cst z)
    | none => .bad
  | .box e x => match cArg x with
    | some a => .box e a
    | none => .bad
  | .build t parts => match zeroOf P t, P.underlying t with
    | some z, some (.struct fields) =>
      match cParts (fun i => (fields[i]?).bind fun f => (szOf P f.type).map fun n => (f.offset, n)) parts.toList with
      | some l => if fields.all (fun f => (szOf P f.type).isSome) then .build (cellsOf z) l else .bad
      | none => .bad
    | some z, some (.array _ e) => match szOf P e with
      | some n => match cParts (fun i => some (i * n, n)) parts.toList with
        | some l => .build (cellsOf z) l
        | none => .bad
      | none => .bad
    | _, _ => .bad
  | .buildSlice t len parts => match P.underlying t with
    | some (.slice e) => match szOf P e, zeroOf P e with
      | some n, some z =>
        if 0 < n ∧ (cellsOf z).length = n ∧ len * n ≤ 2 ^ 24 then
          match cParts (fun i => some (i * n, n)) parts.toList with
          | some l => .buildSlice e (zeroFill (cellsOf z) len) len l
          | none => .bad
        else .bad
      | _, _ => .bad
    | _ => .bad
  | .load t x => match cArg x, aggT P t, szOf P t with
    | some a, some true, some n => .loadN n a
    | some a, some false, some _ => .load1 a
    | _, _, _ => .bad
  | .store t x v => match cArg x, cArg v, aggT P t, szOf P t with
    | some a, some b, some true, some n => .storeN n a b
    | some a, some b, some false, some 1 => .store1 a b
    | _, _, _, _ => .bad
  | .nilCheck x => match cArg x with
    | some a => .nilCheck a
    | none => .bad
  | .binOp op t x y _ => cBin P op t x y
  | .unOp op _ x => match cArg x with
    | some a => .un op a
    | none => .bad
  | .convert s d x => cConv P s d x
  | .makeInterface t x => match cArg x, P.underlying t with
    | some a, some d => if isIfaceT d = true then .bad else .mkIface t a
    | _, _ => .bad
  | .makeFunc (.func f) first cap => match cArgs first, cArgs cap with
    | some a, some b => if f < fYield then .mkFunc f a b else .bad
    | _, _ => .bad
  | .makeMap _ none => .mkMap
  | .makeSlice t l c => match P.underlying t, cArg l, cArg c with
    | some (.slice e), some l, some c => match szOf P e, byOf P e, zeroOf P e with
      | some k, some b, some z => if 0 < k ∧ 0 < b ∧ (cellsOf z).length = k then .mkSlice e k b (cellsOf z) l c else .bad
      | _, _, _ => .bad
    | _, _, _ => .bad
  | .slice t x lo hi mx => match P.underlying t, cArg x, cOpt lo, cOpt hi, cOpt mx with
    | some .string, some a, some l, some h, some none => .sliceStr a l h
    | some (.slice e), some a, some l, some h, some m => match szOf P e with
      | some k => if m.isSome && h.isNone then .bad else .sliceSl k a l h m
      | none => .bad
    | some (.array n e), some a, some l, some h, some m => match szOf P e with
      | some k => if m.isSome && h.isNone then .bad else .sliceArr k n a l h m
      | none => .bad
    | _, _, _, _, _ => .bad
  | .fieldAddr s x f => match P.underlying s, cArg x with
    | some (.struct fields), some a => match fields[f]? with
      | some fd => match szOf P fd.type with
        | some n => if n = 0 then .bad else .fieldAddr fd.offset a
        | none => .bad
      | none => .bad
    | _, _ => .bad
  | .field t x f => match P.underlying t, cArg x with
    | some (.struct fields), some a => match fields[f]? with
      | some fd => match aggT P fd.type, szOf P fd.type with
        | some true, some n => .fieldN fd.offset n a
        | some false, some _ => .field1 fd.offset a
        | _, _ => .bad
      | none => .bad
    | _, _ => .bad
  | .indexAddr t x i => match P.underlying t, cArg x, cArg i with
    | some (.array len e), some a, some i => match szOf P e with
      | some k => .idxAddrArr k len a i
      | none => .bad
    | some (.slice e), some a, some i => match szOf P e with
      | some k => .idxAddrSl k a i
      | none => .bad
    | _, _, _ => .bad
  | .index t x i => match P.underlying t, cArg x, cArg i with
    | some .string, some a, some i => .idxStr a i
    | some (.array len e), some a, some i => match aggT P e, szOf P e with
      | some true, some n => .idxArrN len n a i
      | some false, some 1 => .idxArr1 len a i
      | _, _ => .bad
    | _, _, _ => .bad
  | .lookup t m k ok => match P.underlying t, cArg m, cArg k with
    | some (.map kt e), some a, some b => match zeroOf P e, keyT P kt with
      | some z, some kk => .lookup kk z ok a b
      | _, _ => .bad
    | _, _, _ => .bad
  | .mapUpdate t m k v | .insert t m k v => match P.underlying t, cArg m, cArg k, cArg v with
    | some (.map kt _), some a, some b, some c => match keyT P kt with
      | some kk => .mapUpd kk a b c
      | none => .bad
    | _, _, _, _ => .bad
  | .range t x => match P.underlying t, cArg x with
    | some .string, some a => .rangeStr a
    | _, _ => .bad
  | .next it true => match cArg it with
    | some a => .nextStr a
    | none => .bad
  | .typeAssert x _ t ok => match P.underlying t, cArg x, zeroOf P t with
    | some d, some a, some z => if isIfaceT d = true then .bad else .tassert t z ok a
    | _, _, _ => .bad
  | .extract x i => match cArg x with
    | some a => .extract i a
    | none => .bad
  | .call c => cCall P c o.type false
  | .defer c => cCall P c o.type true
  | _ => .bad

def badOper : AOper := { dst := none, guard := none, op := .bad }
def cGuard (ops : Array Oper) (n : Nat) (o : Oper) : Option (Option (Nat × Bool)) :=
  match o.guard with
  | none => some none
  | some (j, w) => match (ops[j]?).bind (·.dst) with
    | some g => if g < n then some (some (g, w)) else none
    | none => none
def dstFits (n : Nat) : Option Nat → Bool
  | some d => decide (d < n)
  | none => true
def cOper (ops : Array Oper) (n : Nat) (o : Oper) : AOper :=
  match cGuard ops n o with
  | some g => if dstFits n o.dst then { dst := o.dst, guard := g, op := cOp P o } else badOper
  | none => badOper

def cOps (n : Nat) (ops : Array Oper) : List AOper := ops.toList.map (cOper P ops n)
end

end Go.Ab

/- How abstract values and memory stand for the model's. -/
namespace Go.Ab

abbrev Mu := Nat → Nat → Option (Nat × Nat × Nat)
def Mu.le (m m' : Mu) : Prop := ∀ b t x, m b t = some x → m' b t = some x
def Mu.set (m : Mu) (b t : Nat) (x : Nat × Nat × Nat) : Mu := fun b' t' => if b' = b ∧ t' = t then some x else m b' t'

inductive VRel (m : Mu) : Value → Value → Prop
  | any (v : Value) : VRel m (.tuple #[]) v
  | bool (b : Bool) : VRel m (.bool b) (.bool b)
  | int (k : IntKind) (n : Int) : VRel m (.int k n) (.int k n)
  | float (k : FloatKind) (n : Nat) : VRel m (.float k n) (.float k n)
  | string (s : ByteArray) : VRel m (.string s) (.string s)
  | nilFunc : VRel m .nilFunc .nilFunc
  | nilIface : VRel m .nilIface .nilIface
  | ptrNil : VRel m (.pointer none) (.pointer none)
  | ptrOld (a : Addr) : a.spot = none → VRel m (.pointer (some a)) (.pointer (some a))
  | ptrNew {b t cb sz k : Nat} (off : Nat) : m b t = some (cb, sz, k) → VRel m (.pointer (some ⟨b, off, some t⟩)) (.pointer (some ⟨cb, off, none⟩))
  | slNil : VRel m (.slice none 0 0) (.slice none 0 0)
  | slOld (a : Addr) (l c : Nat) : a.spot = none → VRel m (.slice (some a) l c) (.slice (some a) l c)
  | slPlain {b cb sz k : Nat} (off l c : Nat) : m b 0 = some (cb, sz, k) → VRel m (.slice (some ⟨b, off, some 0⟩) l c) (.slice (some ⟨cb, off, none⟩) l c)
  | slEmpty (b off : Nat) (a : Addr) : VRel m (.slice (some ⟨b, off, some 0⟩) 0 0) (.slice (some a) 0 0)
  | slExact {b t cb sz k : Nat} (off l c : Nat) : m b (t + 1) = some (cb, sz, k) → c ≠ 0 → VRel m (.slice (some ⟨b, off, some (t + 1)⟩) l c) (.slice (some ⟨cb, off, none⟩) l c)
  | slRest {b t cb sz k : Nat} (off l c : Nat) : m b (t + 1) = some (cb, sz, k) → off + c * k = sz → l ≤ c → VRel m (.slice (some ⟨b, off, some (t + 1)⟩) l 0) (.slice (some ⟨cb, off, none⟩) l c)
  | slEnd {b t cb sz k : Nat} (off : Nat) (a : Addr) : m b (t + 1) = some (cb, sz, k) → off = sz → VRel m (.slice (some ⟨b, off, some (t + 1)⟩) 0 0) (.slice (some a) 0 0)
  | mapNil : VRel m (.map none) (.map none)
  | mapNew {r cb sz k : Nat} : m r 0 = some (cb, sz, k) → VRel m (.map (some r)) (.map (some cb))
  | yield {b cb sz k : Nat} : m b 0 = some (cb, sz, k) → VRel m (.func (.func fYield) ⟨[]⟩ ⟨[.pointer (some ⟨b, 0, some 0⟩)]⟩) (.func (.yield cb) ⟨[]⟩ ⟨[]⟩)
  | func (f : FuncId) (x y u v : List Value) : f < fYield → x.length = u.length → (∀ (i : Nat) a b, x[i]? = some a → u[i]? = some b → VRel m a b) →
      y.length = v.length → (∀ (i : Nat) a b, y[i]? = some a → v[i]? = some b → VRel m a b) → VRel m (.func (.func f) ⟨x⟩ ⟨y⟩) (.func (.func f) ⟨u⟩ ⟨v⟩)
  | iface (t : TypeId) (v w : Value) : VRel m v w → VRel m (.iface t v) (.iface t w)
  | agg (x u : List Value) : x.length = u.length → (∀ (i : Nat) a b, x[i]? = some a → u[i]? = some b → VRel m a b) → VRel m (.agg ⟨x⟩) (.agg ⟨u⟩)
  | tuple (x u : List Value) : x.length = u.length → (∀ (i : Nat) a b, x[i]? = some a → u[i]? = some b → VRel m a b) → VRel m (.tuple ⟨x⟩) (.tuple ⟨u⟩)

def VRelL (m : Mu) (x u : List Value) : Prop := x.length = u.length ∧ ∀ (i : Nat) a b, x[i]? = some a → u[i]? = some b → VRel m a b

theorem VRel.mono {m m' : Mu} (hm : m.le m') {v w : Value} (h : VRel m v w) : VRel m' v w := by
  induction h with
  | any v => exact .any v
  | bool b => exact .bool b
  | int k n => exact .int k n
  | float k n => exact .float k n
  | string s => exact .string s
  | nilFunc => exact .nilFunc
  | nilIface => exact .nilIface
  | ptrNil => exact .ptrNil
  | ptrOld a h => exact .ptrOld a h
  | ptrNew off h => exact .ptrNew off (hm _ _ _ h)
  | slNil => exact .slNil
  | slOld a l c h => exact .slOld a l c h
  | slPlain off l c h => exact .slPlain off l c (hm _ _ _ h)
  | slEmpty b off a => exact .slEmpty b off a
  | slExact off l c h hc => exact .slExact off l c (hm _ _ _ h) hc
  | slRest off l c h h1 h2 => exact .slRest off l c (hm _ _ _ h) h1 h2
  | slEnd off a h h1 => exact .slEnd off a (hm _ _ _ h) h1
  | mapNil => exact .mapNil
  | mapNew h => exact .mapNew (hm _ _ _ h)
  | yield h => exact .yield (hm _ _ _ h)
  | func f x y u v h0 h1 _ h2 _ ih1 ih2 => exact .func f x y u v h0 h1 ih1 h2 ih2
  | iface t v w _ ih => exact .iface t v w ih
  | agg x u h _ ih => exact .agg x u h ih
  | tuple x u h _ ih => exact .tuple x u h ih

theorem VRelL.mono {m m' : Mu} (hm : m.le m') {x u : List Value} (h : VRelL m x u) : VRelL m' x u :=
  ⟨h.1, fun i a b ha hb => (h.2 i a b ha hb).mono hm⟩
theorem VRelL.nil (m : Mu) : VRelL m [] [] := ⟨rfl, fun i a b h => by simp at h⟩
theorem VRelL.cons {m : Mu} {a b : Value} {x u : List Value} (h : VRel m a b) (hx : VRelL m x u) : VRelL m (a :: x) (b :: u) := by
  refine ⟨by simp [hx.1], fun i c d hc hd => ?_⟩
  cases i with
  | zero => simp at hc hd; subst hc; subst hd; exact h
  | succ i => simp at hc hd; exact hx.2 i c d hc hd
theorem VRelL.uncons {m : Mu} {a : Value} {x u : List Value} (h : VRelL m (a :: x) u) : ∃ b u', u = b :: u' ∧ VRel m a b ∧ VRelL m x u' := by
  cases u with
  | nil => simp [VRelL] at h
  | cons b u' => exact ⟨b, u', rfl, h.2 0 a b rfl rfl, by simpa using h.1, fun i c d hc hd => h.2 (i + 1) c d (by simpa using hc) (by simpa using hd)⟩
theorem VRelL.nil_left {m : Mu} {u : List Value} (h : VRelL m [] u) : u = [] := List.eq_nil_of_length_eq_zero (by simpa using h.1.symm)
theorem VRelL.append {m : Mu} {x u y v : List Value} (h : VRelL m x u) (h' : VRelL m y v) : VRelL m (x ++ y) (u ++ v) := by
  induction x generalizing u with
  | nil => rw [h.nil_left]; exact h'
  | cons a x ih => obtain ⟨b, u', rfl, hb, hx⟩ := h.uncons; exact VRelL.cons hb (ih hx)
theorem VRelL.get {m : Mu} {x u : List Value} (h : VRelL m x u) {i : Nat} {a : Value} (ha : x[i]? = some a) : ∃ b, u[i]? = some b ∧ VRel m a b := by
  have hi : i < x.length := by
    rcases Nat.lt_or_ge i x.length with h | h
    · exact h
    · rw [List.getElem?_eq_none h] at ha; cases ha
  have hu : i < u.length := h.1 ▸ hi
  exact ⟨u[i], by simp [hu], h.2 i a _ ha (by simp [hu])⟩
theorem VRelL.take {m : Mu} {x u : List Value} (h : VRelL m x u) (n : Nat) : VRelL m (x.take n) (u.take n) := by
  refine ⟨by simp [h.1], fun i a b ha hb => ?_⟩
  rw [List.getElem?_take] at ha hb
  split at ha
  · rename_i hi; rw [if_pos hi] at hb; exact h.2 i a b ha hb
  · cases ha
theorem VRelL.drop {m : Mu} {x u : List Value} (h : VRelL m x u) (n : Nat) : VRelL m (x.drop n) (u.drop n) := by
  refine ⟨by simp [h.1], fun i a b ha hb => ?_⟩
  rw [List.getElem?_drop] at ha hb
  exact h.2 _ a b ha hb
theorem VRelL.splice {m : Mu} {x u y v : List Value} (h : VRelL m x u) (h' : VRelL m y v) (i : Nat) : VRelL m (splice x i y) (splice u i v) := by
  unfold Go.Ab.splice
  rw [h'.1]
  exact ((h.take i).append h').append (h.drop _)
theorem VRelL.of_some {m : Mu} {x u : List Value} (hl : x.length = u.length) (h : ∀ (i : Nat) a, x[i]? = some a → ∃ b, u[i]? = some b ∧ VRel m a b) : VRelL m x u := by
  refine ⟨hl, fun i a b ha hb => ?_⟩
  obtain ⟨b', hb', hr⟩ := h i a ha
  rw [hb] at hb'
  cases hb'
  exact hr

theorem VRel.ok {m : Mu} {v w : Value} (h : VRel m v w) (hv : okCell v = true) : w.oneCell' = true := by
  cases h <;> simp_all [okCell, Value.oneCell']
theorem VRelL.ok {m : Mu} {x u : List Value} (h : VRelL m x u) (hx : x.all okCell = true) : ∀ w ∈ u, w.oneCell' = true := by
  intro w hw
  obtain ⟨i, hi, rfl⟩ := List.getElem_of_mem hw
  have hl : i < x.length := h.1 ▸ hi
  exact (h.2 i x[i] u[i] (by simp [hl]) (by simp [hi])).ok ((List.all_eq_true.1 hx) _ (by simp))

theorem constOk_self {m : Mu} : ∀ v, constOk v = true → VRel m v v := by
  intro v h
  refine (Go.Ab.constOk.mutual_induct (motive_1 := fun v => constOk v = true → VRel m v v) (motive_2 := fun l => constOkL l = true → VRelL m l l)
    ?_ ?_ ?_ ?_ ?_ ?_).1 v h
  · intro l ih h; simp only [constOk] at h; have := ih h; exact .agg _ _ this.1 this.2
  · intro l ih h; simp only [constOk] at h; have := ih h; exact .tuple _ _ this.1 this.2
  · intro t v ih h; simp only [constOk] at h; exact .iface _ _ _ (ih h)
  · intro v h1 h2 h3 h
    unfold constOk at h
    cases v <;> simp_all [constOk1] <;> try (constructor; done)
    case pointer a => cases a <;> simp_all [constOk1]; constructor
    case slice a l c =>
      cases a with
      | some a => simp [constOk1] at h
      | none =>
        cases l with
        | succ l => simp [constOk1] at h
        | zero => cases c with
          | succ c => simp [constOk1] at h
          | zero => constructor
    case map r => cases r <;> simp_all [constOk1]; constructor
    case agg l => obtain ⟨l⟩ := l; exact absurd rfl (h1 l)
    case tuple l => obtain ⟨l⟩ := l; exact absurd rfl (h2 l)
  · intro _; exact VRelL.nil m
  · intro v l ih1 ih2 h
    simp only [constOkL, Bool.and_eq_true] at h
    exact VRelL.cons (ih1 h.1) (ih2 h.2)

/-- no cell of so many is barred from writing -/
def Free (lo hi n : Nat) : Prop := ∀ i, i < n → ¬ (lo ≤ i ∧ i < hi)

def ERel (m : Mu) (x u : List MapEntry) : Prop := x.length = u.length ∧ ∀ (i : Nat) a b, x[i]? = some a → u[i]? = some b → VRel m a.key b.key ∧ VRel m a.val b.val ∧ a.born = b.born ∧ simpleKey a.key = true

/-- temporaries -/
def TRel (m : Mu) (t : List Value) (tmps : Array Value) : Prop := ∀ i, VRel m (tg t i) (tmps.getD i undef) ∧ (tg t i = .tuple #[] → tmps.getD i undef = undef)
theorem TRel.mono {m m' : Mu} (hm : m.le m') {t : List Value} {tmps : Array Value} (h : TRel m t tmps) : TRel m' t tmps := fun i => ⟨(h i).1.mono hm, (h i).2⟩
/-- how a loop over a function stands -/
def LSt : Nat → LoopState → Option Code → Prop
  | 0, s, p => s = .ready ∧ p = none
  | 1, s, p => s = .done ∧ p = some .ret
  | 2, s, _ => s = .busy
  | 3, s, _ => s = .exhausted
  | n + 4, s, p => s = .done ∧ p = some (.exit n)
def BRel (m : Mu) (t sz k : Nat) (o : Option Obj) : Option ABlock → Prop
  | some (.cells c fz) => t = 0 ∧ ∃ cc e lo hi, o = some (.cells cc e (lo, hi)) ∧ cc.size = sz ∧ VRelL m c cc.toList ∧ (fz ≠ 0 → Free lo hi sz ∧ fz = e + 1)
  | some (.grow c last fz k') => k' = k ∧ 0 < k ∧ 1 ≤ t ∧ t ≤ c.length + 1 ∧ last ≤ c.length ∧ ∃ cc e lo hi, o = some (.cells cc e (lo, hi)) ∧ cc.size = sz ∧ t ≤ sz + 1 ∧
      (last < t → VRelL m (c.take (t - 1)) (cc.toList.take (t - 1))) ∧ (fz ≠ 0 → fz = e + 1 ∧ (t = c.length + 1 → Free lo hi sz))
  | some (.map es clock) => t = 0 ∧ ∃ es', o = some (.map ⟨es'⟩ clock) ∧ ERel m es es'
  | some (.siter s pos) => t = 0 ∧ o = some (.stringIter ⟨⟨s⟩⟩ pos)
  | some (.loop ps A B nt snap st) => t = 0 ∧ ∃ L, o = some (.loop L) ∧ L.params.toList = ps ∧ L.assign = A ∧ L.body = B ∧ nt ≤ L.tmps.size ∧ (∀ p, p ∈ ps → p < nt) ∧ TRel m snap L.tmps ∧ LSt st L.state L.pending
  | some (.dfr tk) => t = 0 ∧ o = some (.deferred (if tk then none else some []))
  | _ => False

theorem ERel.mono {m m' : Mu} (hm : m.le m') {x u : List MapEntry} (h : ERel m x u) : ERel m' x u :=
  ⟨h.1, fun i a b ha hb => let ⟨h1, h2, h3⟩ := h.2 i a b ha hb; ⟨h1.mono hm, h2.mono hm, h3⟩⟩

theorem BRel.mono {m m' : Mu} (hm : m.le m') {t sz k : Nat} {o : Option Obj} {b : Option ABlock} (h : BRel m t sz k o b) : BRel m' t sz k o b := by
  cases b with
  | none => exact h
  | some b =>
    cases b with
    | cells c fz => obtain ⟨h0, cc, e, lo, hi, h1, h2, h3, h4⟩ := h; exact ⟨h0, cc, e, lo, hi, h1, h2, h3.mono hm, h4⟩
    | grow c last fz k' =>
      obtain ⟨h0, h00, h01, h02, h03, cc, e, lo, hi, h1, h2, h3, h4, h5⟩ := h
      exact ⟨h0, h00, h01, h02, h03, cc, e, lo, hi, h1, h2, h3, fun hl => (h4 hl).mono hm, h5⟩
    | map es c => obtain ⟨h0, es', h1, h2⟩ := h; exact ⟨h0, es', h1, h2.mono hm⟩
    | siter s p => exact h
    | loop ps A B nt snap st => obtain ⟨h0, L, h1, h2, h3, h4, h5, h6, h7, h8⟩ := h; exact ⟨h0, L, h1, h2, h3, h4, h5, h6, h7.mono hm, h8⟩
    | dfr tk => exact h
    | hole => exact h

structure HRel (m : Mu) (w0 : World) (h : AHeap) (w : World) : Prop where
  base : w0.heap.size ≤ w.heap.size
  old : ∀ i, i < w0.heap.size → w.heap[i]? = w0.heap[i]?
  os : w.os = w0.os
  output : w.output = w0.output
  tape : w.tape = w0.tape
  lo : h.lo ≤ h.bs.length
  blk : ∀ b t cb sz k, m b t = some (cb, sz, k) → w0.heap.size ≤ cb ∧ BRel m t sz k w.heap[cb]? h.bs[b]?
  inj : ∀ b t b' t' cb sz k sz' k', m b t = some (cb, sz, k) → m b' t' = some (cb, sz', k') → b = b'

structure Post (m : Mu) (h : AHeap) (m' : Mu) (h' : AHeap) : Prop where
  le : m.le m'
  len : h.bs.length ≤ h'.bs.length
  lo : h'.lo = h.lo
  prot : ∀ b, b < h.lo → h'.bs[b]? = h.bs[b]? ∧ ∀ t, m' b t = m b t
  unm : ∀ b, b < h.bs.length → (∀ t, m b t = none) → h'.bs[b]? = h.bs[b]? ∧ ∀ t, m' b t = none

theorem Post.refl (m : Mu) (h : AHeap) : Post m h m h := ⟨fun _ _ _ h => h, Nat.le_refl _, rfl, fun _ _ => ⟨rfl, fun _ => rfl⟩, fun _ _ hm => ⟨rfl, hm⟩⟩
theorem Post.trans {m1 m2 m3 : Mu} {h1 h2 h3 : AHeap} (a : Post m1 h1 m2 h2) (b : Post m2 h2 m3 h3) : Post m1 h1 m3 h3 := by
  refine ⟨fun _ _ _ h => b.le _ _ _ (a.le _ _ _ h), Nat.le_trans a.len b.len, b.lo.trans a.lo, fun i hi => ?_, fun i hi hm => ?_⟩
  · obtain ⟨x1, x2⟩ := a.prot i hi
    obtain ⟨y1, y2⟩ := b.prot i (a.lo ▸ hi)
    exact ⟨y1.trans x1, fun t => (y2 t).trans (x2 t)⟩
  · obtain ⟨x1, x2⟩ := a.unm i hi hm
    obtain ⟨y1, y2⟩ := b.unm i (Nat.lt_of_lt_of_le hi a.len) x2
    exact ⟨y1.trans x1, y2⟩

theorem HRel.lt {m : Mu} {w0 w : World} {h : AHeap} (H : HRel m w0 h w) {b t cb sz k : Nat} (hm : m b t = some (cb, sz, k)) : b < h.bs.length ∧ cb < w.heap.size := by
  obtain ⟨_, hb⟩ := H.blk _ _ _ _ _ hm
  constructor
  · rcases Nat.lt_or_ge b h.bs.length with h' | h'
    · exact h'
    · rw [List.getElem?_eq_none h'] at hb; exact hb.elim
  · rcases Nat.lt_or_ge cb w.heap.size with h' | h'
    · exact h'
    · rw [Array.getElem?_eq_none h'] at hb
      cases hx : h.bs[b]? with
      | none => rw [hx] at hb; exact hb.elim
      | some x => rw [hx] at hb; cases x <;> simp [BRel] at hb
theorem HRel.fresh {m : Mu} {w0 w : World} {h : AHeap} (H : HRel m w0 h w) (t : Nat) : m h.bs.length t = none := by
  cases hx : m h.bs.length t with
  | none => rfl
  | some x => obtain ⟨cb, sz, k⟩ := x; exact absurd (H.lt hx).1 (Nat.lt_irrefl _)

theorem HRel.drew {m : Mu} {w0 w : World} {h : AHeap} (H : HRel m w0 h w) (n : Nat) : HRel m w0 h { w with drawn := n } :=
  ⟨H.base, H.old, H.os, H.output, H.tape, H.lo, H.blk, H.inj⟩
theorem HRel.setLo {m : Mu} {w0 w : World} {h : AHeap} (H : HRel m w0 h w) {n : Nat} (hn : n ≤ h.bs.length) : HRel m w0 { h with lo := n } w :=
  ⟨H.base, H.old, H.os, H.output, H.tape, hn, H.blk, H.inj⟩

/-- new memory that the abstract side knows nothing of -/
theorem HRel.alloc {m : Mu} {w0 w : World} {h : AHeap} (H : HRel m w0 h w) (o : Obj) : HRel m w0 h (w.alloc o) := by
  have hne : ∀ i, i < w.heap.size → (w.alloc o).heap[i]? = w.heap[i]? := fun i hi => by
    simp only [World.alloc, Array.getElem?_push]; rw [if_neg (Nat.ne_of_lt hi)]
  refine ⟨by simp; exact Nat.le_succ_of_le H.base, fun i hi => ?_, H.os, H.output, H.tape, H.lo, fun b t cb sz k hm => ?_, H.inj⟩
  · rw [hne i (Nat.lt_of_lt_of_le hi H.base)]; exact H.old i hi
  · obtain ⟨h1, h2⟩ := H.blk _ _ _ _ _ hm
    exact ⟨h1, by rw [hne cb (H.lt hm).2]; exact h2⟩

/-- a new block on both sides -/
theorem HRel.push {m : Mu} {w0 w : World} {h : AHeap} (H : HRel m w0 h w) {blk : ABlock} {o : Obj} {t sz k : Nat}
    (hb : BRel m t sz k (some o) (some blk)) :
    HRel (m.set h.bs.length t (w.heap.size, sz, k)) w0 (h.push blk) (w.alloc o) ∧ Post m h (m.set h.bs.length t (w.heap.size, sz, k)) (h.push blk) := by
  have hle : m.le (m.set h.bs.length t (w.heap.size, sz, k)) := fun b t' x hx => by
    unfold Mu.set
    rw [if_neg]
    · exact hx
    · rintro ⟨rfl, _⟩; rw [H.fresh t'] at hx; cases hx
  have hne : ∀ i, i < w.heap.size → (w.alloc o).heap[i]? = w.heap[i]? := fun i hi => by
    simp only [World.alloc, Array.getElem?_push]; rw [if_neg (Nat.ne_of_lt hi)]
  have hbs : ∀ b, b < h.bs.length → (h.push blk).bs[b]? = h.bs[b]? := fun b hb => by simp [AHeap.push, List.getElem?_append_left hb]
  refine ⟨⟨by simp; exact Nat.le_succ_of_le H.base, fun i hi => ?_, H.os, H.output, H.tape, by simp [AHeap.push]; exact Nat.le_succ_of_le H.lo, ?_, ?_⟩, ?_⟩
  · rw [hne i (Nat.lt_of_lt_of_le hi H.base)]; exact H.old i hi
  · intro b t' cb sz' k' hm
    unfold Mu.set at hm
    split at hm
    · rename_i hc
      obtain ⟨rfl, rfl⟩ := hc
      cases hm
      refine ⟨H.base, ?_⟩
      rw [show (w.alloc o).heap[w.heap.size]? = some o from heap_alloc_new w o, show (h.push blk).bs[h.bs.length]? = some blk by simp [AHeap.push]]
      exact hb.mono hle
    · obtain ⟨h1, h2⟩ := H.blk _ _ _ _ _ hm
      obtain ⟨l1, l2⟩ := H.lt hm
      exact ⟨h1, by rw [hne cb l2, hbs b l1]; exact h2.mono hle⟩
  · intro b t1 b' t2 cb s1 k1 s2 k2 e1 e2
    unfold Mu.set at e1 e2
    split at e1 <;> split at e2
    · rename_i c1 c2; exact c1.1.trans c2.1.symm
    · cases e1; exact absurd (H.lt e2).2 (Nat.lt_irrefl _)
    · cases e2; exact absurd (H.lt e1).2 (Nat.lt_irrefl _)
    · exact H.inj _ _ _ _ _ _ _ _ _ e1 e2
  · refine ⟨hle, by simp [AHeap.push], rfl, fun b hb => ?_, fun b hb hu => ?_⟩
    · have hl : b < h.bs.length := Nat.lt_of_lt_of_le hb H.lo
      refine ⟨hbs b hl, fun t' => ?_⟩
      unfold Mu.set; rw [if_neg (fun c => Nat.ne_of_lt hl c.1)]
    · refine ⟨hbs b hb, fun t' => ?_⟩
      unfold Mu.set; rw [if_neg (fun c => Nat.ne_of_lt hb c.1)]; exact hu t'

theorem Mu.set_self (m : Mu) (b t : Nat) (x : Nat × Nat × Nat) : m.set b t x b t = some x := by unfold Mu.set; rw [if_pos ⟨rfl, rfl⟩]

end Go.Ab

/- Reading and writing: the abstract memory against the model's. -/
namespace Go.Ab

theorem HRel.change {m m' : Mu} {w0 w w' : World} {h : AHeap} (H : HRel m w0 h w) {b : Nat} {blk : ABlock} (hb : b < h.bs.length) (hlo : h.lo ≤ b)
    (hmap : ∃ t, m b t ≠ none) (hle : m.le m') (hoth : ∀ b' t, b' ≠ b → m' b' t = m b' t)
    (hsz : w.heap.size ≤ w'.heap.size) (hkeep : ∀ cb, cb < w.heap.size → (∀ t sz k, m b t ≠ some (cb, sz, k)) → w'.heap[cb]? = w.heap[cb]?)
    (hos : w'.os = w.os) (hout : w'.output = w.output) (htape : w'.tape = w.tape)
    (hnew : ∀ t cb sz k, m' b t = some (cb, sz, k) → ((∃ t0 sz0 k0, m b t0 = some (cb, sz0, k0)) ∨ w.heap.size ≤ cb) ∧ BRel m' t sz k w'.heap[cb]? (some blk)) :
    HRel m' w0 (h.put b blk) w' ∧ Post m h m' (h.put b blk) := by
  have himg : ∀ cb, cb < w0.heap.size → ∀ t sz k, m b t ≠ some (cb, sz, k) := fun cb hcb t sz k e => Nat.not_lt.2 (H.blk _ _ _ _ _ e).1 hcb
  have hput : ∀ b', b' ≠ b → (h.put b blk).bs[b']? = h.bs[b']? := fun b' hne => by simp [AHeap.put, List.getElem?_set, hne.symm]
  refine ⟨⟨Nat.le_trans H.base hsz, fun i hi => ?_, hos.trans H.os, hout.trans H.output, htape.trans H.tape, by simpa [AHeap.put] using H.lo, ?_, ?_⟩, ?_⟩
  · rw [hkeep i (Nat.lt_of_lt_of_le hi H.base) (himg i hi)]; exact H.old i hi
  · intro b' t cb sz k e
    by_cases hbb : b' = b
    · subst hbb
      obtain ⟨h1, h2⟩ := hnew _ _ _ _ e
      refine ⟨?_, by rw [show (h.put b' blk).bs[b']? = some blk by simp [AHeap.put, hb]]; exact h2⟩
      rcases h1 with ⟨t0, sz0, k0, e0⟩ | h1
      · exact (H.blk _ _ _ _ _ e0).1
      · exact Nat.le_trans H.base h1
    · rw [hoth b' t hbb] at e
      obtain ⟨h1, h2⟩ := H.blk _ _ _ _ _ e
      refine ⟨h1, ?_⟩
      rw [hput b' hbb, hkeep cb (H.lt e).2 (fun t0 sz0 k0 e0 => hbb (H.inj _ _ _ _ _ _ _ _ _ e e0))]
      exact h2.mono hle
  · intro b1 t1 b2 t2 cb s1 k1 s2 k2 e1 e2
    have key : ∀ b1 t1 s1 k1 t2 s2 k2, b1 ≠ b → m' b1 t1 = some (cb, s1, k1) → m' b t2 = some (cb, s2, k2) → False := by
      intro b1 t1 s1 k1 t2 s2 k2 hne e1 e2
      rw [hoth _ _ hne] at e1
      rcases (hnew _ _ _ _ e2).1 with ⟨t0, s0, k0, e0⟩ | hg
      · exact hne (H.inj _ _ _ _ _ _ _ _ _ e1 e0)
      · exact Nat.not_lt.2 hg (H.lt e1).2
    by_cases h1 : b1 = b <;> by_cases h2 : b2 = b
    · rw [h1, h2]
    · subst h1; exact (key _ _ _ _ _ _ _ h2 e2 e1).elim
    · subst h2; exact (key _ _ _ _ _ _ _ h1 e1 e2).elim
    · rw [hoth _ _ h1] at e1; rw [hoth _ _ h2] at e2; exact H.inj _ _ _ _ _ _ _ _ _ e1 e2
  · refine ⟨hle, by simp [AHeap.put], rfl, fun b' hb' => ?_, fun b' hb' hu => ?_⟩
    · have hne : b' ≠ b := fun e => by subst e; omega
      exact ⟨hput b' hne, fun t => hoth b' t hne⟩
    · have hne : b' ≠ b := fun e => by subst e; obtain ⟨t, ht⟩ := hmap; exact ht (hu t)
      exact ⟨hput b' hne, fun t => by rw [hoth b' t hne]; exact hu t⟩

/-- what stands at an address -/
def ARel (m : Mu) (a a' : Addr) : Prop := (a.spot = none ∧ a' = a) ∨ ∃ t cb sz k, a.spot = some t ∧ m a.block t = some (cb, sz, k) ∧ a' = ⟨cb, a.off, none⟩

theorem VRel.ptr {m : Mu} {a : Addr} {x : Value} (h : VRel m (.pointer (some a)) x) : ∃ a', x = .pointer (some a') ∧ ARel m a a' := by
  cases h with
  | ptrOld _ hs => exact ⟨a, rfl, .inl ⟨hs, rfl⟩⟩
  | ptrNew off hm => exact ⟨_, rfl, .inr ⟨_, _, _, _, rfl, hm, rfl⟩⟩
theorem ARel.ptr {m : Mu} {a a' : Addr} (h : ARel m a a') : VRel m (.pointer (some a)) (.pointer (some a')) := by
  rcases h with ⟨hs, rfl⟩ | ⟨t, cb, sz, k, hs, hm, rfl⟩
  · exact .ptrOld _ hs
  · obtain ⟨b, off, sp⟩ := a; simp only at hs hm; subst hs; exact .ptrNew off hm
theorem ARel.spot {m : Mu} {a a' : Addr} (h : ARel m a a') : a'.spot = none := by
  rcases h with ⟨hs, rfl⟩ | ⟨t, cb, sz, k, hs, hm, rfl⟩
  · exact hs
  · rfl
theorem add_of_none {a : Addr} (h : a.spot = none) (n : Nat) : a.add n = { a with off := a.off + n } := by
  unfold Addr.add; split
  · subst n; rfl
  · obtain ⟨b, o, s⟩ := a; simp only at h; subst h; rfl
theorem ARel.add {m : Mu} {a a' : Addr} (h : ARel m a a') (n : Nat) : ARel m (adda a n) (a'.add n) := by
  rw [add_of_none h.spot]
  rcases h with ⟨hs, rfl⟩ | ⟨t, cb, sz, k, hs, hm, rfl⟩
  · exact .inl ⟨hs, rfl⟩
  · exact .inr ⟨t, cb, sz, k, hs, hm, rfl⟩

theorem cell_of_heap {w : World} {cb off e : Nat} {cc : Array Value} {f : Nat × Nat} (h : w.heap[cb]? = some (.cells cc e f)) : w.cell? ⟨cb, off, none⟩ = cc[off]? := by
  simp [World.cell?, h]
theorem frozen_of_heap {w : World} {cb off e lo hi : Nat} {cc : Array Value} (h : w.heap[cb]? = some (.cells cc e (lo, hi))) : w.frozen? ⟨cb, off, none⟩ = (decide (lo ≤ off) && decide (off < hi)) := by
  simp [World.frozen?, h]
theorem Free.not {lo hi n i : Nat} (h : Free lo hi n) (hi' : i < n) : (decide (lo ≤ i) && decide (i < hi)) = false := by
  have := h i hi'
  simp only [Bool.and_eq_false_iff, decide_eq_false_iff_not]
  omega

def OldOk (old : Old) (w0 : World) : Prop := ∀ b o v, old b o = some v → ∃ x, w0.cell? ⟨b, o, none⟩ = some x ∧ ∀ m, VRel m v x

theorem cell_old {w0 w : World} {m : Mu} {h : AHeap} (H : HRel m w0 h w) {a : Addr} {v : Value} (hc : w0.cell? a = some v) : w.cell? a = some v := by
  have := World.block_lt_of_cell? _ _ hc
  rw [World.cell?_of_block (H.old _ this)]; exact hc

theorem read1_sim {old : Old} {w0 w : World} (hold : OldOk old w0) {m : Mu} {h : AHeap} (H : HRel m w0 h w) {a a' : Addr} {v : Value}
    (hr : read1 old h a = some v) (ha : ARel m a a') : ∃ v', w.cell? a' = some v' ∧ VRel m v v' := by
  rcases ha with ⟨hs, rfl⟩ | ⟨t, cb, sz, k, hs, hm, rfl⟩
  · unfold read1 at hr
    rw [hs] at hr
    obtain ⟨x, h1, h2⟩ := hold _ _ _ hr
    obtain ⟨b, o, s⟩ := a'
    simp only at hs; subst hs
    exact ⟨x, cell_old H h1, h2 m⟩
  · unfold read1 at hr
    rw [hs] at hr
    simp only at hr
    obtain ⟨_, hb⟩ := H.blk _ _ _ _ _ hm
    cases hx : h.bs[a.block]? with
    | none => rw [hx] at hr; cases hr
    | some x =>
      rw [hx] at hr hb
      cases x with
      | cells c fz =>
        simp only at hr
        split at hr
        · obtain ⟨_, cc, e, lo, hi, h1, h2, h3, _⟩ := hb
          obtain ⟨v', hv', hrel⟩ := h3.get hr
          exact ⟨v', by rw [cell_of_heap h1]; simpa using hv', hrel⟩
        · cases hr
      | grow c last fz k' =>
        simp only at hr
        split at hr
        · rename_i hc
          obtain ⟨_, _, _, _, _, cc, e, lo, hi, h1, h2, h3, h4, _⟩ := hb
          have hlt : a.off < t - 1 := by omega
          obtain ⟨v', hv', hrel⟩ := (h4 hc.1).get (i := a.off) (a := v) (by rw [List.getElem?_take, if_pos hlt]; exact hr)
          rw [List.getElem?_take, if_pos hlt] at hv'
          exact ⟨v', by rw [cell_of_heap h1]; simpa using hv', hrel⟩
        · cases hr
      | map es c => cases hr
      | siter s p => cases hr
      | loop ps A B nt snap st => cases hr
      | dfr tk => cases hr
      | hole => cases hr

theorem mapM_range_old {old : Old} {w0 : World} (hold : OldOk old w0) (m : Mu) (b o : Nat) : ∀ (l : List Nat) (c : List Value),
    (l.mapM fun i => old b (o + i)) = some c → c.length = l.length ∧ ∀ (j : Nat) v, c[j]? = some v → ∃ i x, l[j]? = some i ∧ w0.cell? ⟨b, o + i, none⟩ = some x ∧ VRel m v x
  | [], c, h => by simp at h; subst h; simp
  | i :: l, c, h => by
    simp only [List.mapM_cons] at h
    cases h1 : old b (o + i) with
    | none => simp [h1] at h
    | some v =>
      cases h2 : l.mapM fun i => old b (o + i) with
      | none => simp [h1, h2] at h
      | some c' =>
        simp [h1, h2] at h
        subst h
        obtain ⟨l1, l2⟩ := mapM_range_old hold m b o l c' h2
        refine ⟨by simp [l1], fun j u hj => ?_⟩
        cases j with
        | zero => simp at hj; subst hj; obtain ⟨x, g1, g2⟩ := hold _ _ _ h1; exact ⟨i, x, rfl, g1, g2 m⟩
        | succ j => simp at hj; obtain ⟨i', x, hi', h3⟩ := l2 j u hj; exact ⟨i', x, by simpa using hi', h3⟩

theorem readN_sim {old : Old} {w0 w : World} (hold : OldOk old w0) {m : Mu} {h : AHeap} (H : HRel m w0 h w) {a a' : Addr} {n : Nat} {c : List Value}
    (hr : readN old h a n = some c) (ha : ARel m a a') : c.length = n ∧ ∃ c', VRelL m c c' ∧ ∀ (j : Nat) v, c'[j]? = some v → w.cell? (a'.add j) = some v := by
  have hsp := ha.spot
  rcases ha with ⟨hs, rfl⟩ | ⟨t, cb, sz, k, hs, hm, rfl⟩
  · unfold readN at hr
    rw [hs] at hr
    obtain ⟨h1, h2⟩ := mapM_range_old hold m _ _ _ _ hr
    simp only [List.length_range] at h1
    have key : ∀ (j : Nat) v, c[j]? = some v → ∃ x, w0.cell? ⟨a'.block, a'.off + j, none⟩ = some x ∧ VRel m v x := by
      intro j v hv
      obtain ⟨i, x, hi, h3, h4⟩ := h2 j v hv
      have hji : i = j := by
        rw [List.getElem?_range (by
          rcases Nat.lt_or_ge j n with h | h
          · exact h
          · rw [List.getElem?_eq_none (by simpa using h)] at hi; cases hi)] at hi
        exact (Option.some.inj hi).symm
      subst hji
      exact ⟨x, h3, h4⟩
    have hlt : ∀ (j : Nat) v, ((List.range n).map fun j => (w0.cell? ⟨a'.block, a'.off + j, none⟩).getD default)[j]? = some v → j < n ∧ (w0.cell? ⟨a'.block, a'.off + j, none⟩).getD default = v := by
      intro j v hv
      rw [List.getElem?_map] at hv
      rcases Nat.lt_or_ge j n with h | h
      · rw [List.getElem?_range h] at hv
        exact ⟨h, Option.some.inj hv⟩
      · rw [List.getElem?_eq_none (by simpa using h)] at hv; cases hv
    refine ⟨h1, (List.range n).map fun j => (w0.cell? ⟨a'.block, a'.off + j, none⟩).getD default, ⟨by simp [h1], fun i x y hx hy => ?_⟩, fun j v hv => ?_⟩
    · obtain ⟨z, g1, g2⟩ := key i x hx
      obtain ⟨_, g3⟩ := hlt i y hy
      rw [g1] at g3
      cases g3
      exact g2
    · obtain ⟨g1, g2⟩ := hlt j v hv
      obtain ⟨z, g3, _⟩ := key j c[j] (List.getElem?_eq_getElem (by omega))
      rw [g3] at g2
      cases g2
      rw [add_of_none hsp]
      obtain ⟨b, o, s⟩ := a'
      simp only at hs; subst hs
      exact cell_old H g3
  · unfold readN at hr
    rw [hs] at hr
    simp only at hr
    obtain ⟨_, hb⟩ := H.blk _ _ _ _ _ hm
    cases hx : h.bs[a.block]? with
    | none => rw [hx] at hr; cases hr
    | some x =>
      rw [hx] at hr hb
      cases x with
      | cells cl fz =>
        simp only at hr
        split at hr
        · rename_i hc
          cases hr
          obtain ⟨_, cc, e, lo, hi, h1, h2, h3, _⟩ := hb
          refine ⟨by simp; omega, (cc.toList.drop a.off).take n, (h3.drop _).take _, fun j v hv => ?_⟩
          rw [List.getElem?_take] at hv
          split at hv
          · rw [List.getElem?_drop] at hv
            rw [add_of_none rfl, cell_of_heap h1]; simpa using hv
          · cases hv
        · cases hr
      | grow cl last fz k' =>
        simp only at hr
        split at hr
        · rename_i hc
          cases hr
          obtain ⟨_, _, _, _, _, cc, e, lo, hi, h1, h2, h3, h4, _⟩ := hb
          have h5 := h4 hc.1
          have hle : a.off + n ≤ t - 1 := by omega
          have key : ∀ (l : List Value), (l.drop a.off).take n = ((l.take (t - 1)).drop a.off).take n := by
            intro l
            rw [List.drop_take, List.take_take, Nat.min_eq_left (by omega)]
          refine ⟨by simp; omega, (cc.toList.drop a.off).take n, by rw [key cl, key cc.toList]; exact (h5.drop _).take _, fun j v hv => ?_⟩
          rw [List.getElem?_take] at hv
          split at hv
          · rw [List.getElem?_drop] at hv
            rw [add_of_none rfl, cell_of_heap h1]; simpa using hv
          · cases hv
        · cases hr
      | map es c => cases hr
      | siter s p => cases hr
      | loop ps A B nt snap st => cases hr
      | dfr tk => cases hr
      | hole => cases hr

theorem readN_len {old : Old} {h : AHeap} {a : Addr} {n : Nat} {c : List Value} (hr : readN old h a n = some c) : c.length = n := by
  unfold readN at hr
  split at hr
  · have : ∀ (l : List Nat) (c : List Value), (l.mapM fun i => old a.block (a.off + i)) = some c → c.length = l.length := by
      intro l
      induction l with
      | nil => intro c h; simp at h; subst h; rfl
      | cons i l ih =>
        intro c h
        simp only [List.mapM_cons] at h
        cases h1 : old a.block (a.off + i) with
        | none => simp [h1] at h
        | some v =>
          cases h2 : l.mapM fun i => old a.block (a.off + i) with
          | none => simp [h1, h2] at h
          | some c' => simp [h1, h2] at h; subst h; simp [ih _ h2]
    simpa using this _ _ hr
  · split at hr
    · split at hr
      · cases hr; simp; omega
      · cases hr
    · split at hr
      · cases hr; simp; omega
      · cases hr
    · cases hr

theorem run_readN {P : Program} {old : Old} {w0 w : World} (hold : OldOk old w0) {m : Mu} {h : AHeap} (H : HRel m w0 h w) {a a' : Addr} {n : Nat} {c : List Value}
    (hr : readN old h a n = some c) (ha : ARel m a a') : c.length = n ∧ ∃ c', VRelL m c c' ∧ (loadCells a' n).run P w = .ok ⟨c'⟩ w := by
  obtain ⟨h1, c', h2, h3⟩ := readN_sim hold H hr ha
  refine ⟨h1, c', h2, ?_⟩
  have := run_loadCells_list (P := P) w a' c' h3
  rw [← h2.1, h1] at this
  exact this

theorem run_readN' {P : Program} {old : Old} {w0 w : World} (hold : OldOk old w0) {m : Mu} {h : AHeap} (H : HRel m w0 h w) {a a' : Addr} {n : Nat} {c : List Value}
    (hr : readN old h a n = some c) (ha : ARel m a a') : c.length = n ∧ ∃ c', VRelL m c c' ∧ ∀ dr, (loadCells a' n).run P { w with drawn := dr } = .ok ⟨c'⟩ { w with drawn := dr } := by
  obtain ⟨h1, c', h2, h3⟩ := readN_sim hold H hr ha
  refine ⟨h1, c', h2, fun dr => ?_⟩
  have := run_loadCells_list (P := P) { w with drawn := dr } a' c' h3
  rw [← h2.1, h1] at this
  exact this

/-- a block laid anew -/
def putBlock (w : World) (cb : Nat) (o : Obj) : World := { w with heap := w.heap.setIfInBounds cb o }
theorem putBlock_self {w : World} {cb : Nat} {o : Obj} (h : cb < w.heap.size) : (putBlock w cb o).heap[cb]? = some o := by simp [putBlock, h]
theorem putBlock_other {w : World} {cb i : Nat} {o : Obj} (h : i ≠ cb) : (putBlock w cb o).heap[i]? = w.heap[i]? := by simp [putBlock, Array.getElem?_setIfInBounds, h.symm]
theorem putBlock_size (w : World) (cb : Nat) (o : Obj) : (putBlock w cb o).heap.size = w.heap.size := by simp [putBlock]

theorem setCell_eq {w : World} {cb off e : Nat} {cc : Array Value} {f : Nat × Nat} (h : w.heap[cb]? = some (.cells cc e f)) (v : Value) :
    w.setCell ⟨cb, off, none⟩ v = putBlock w cb (.cells (cc.setIfInBounds off v) e f) := by
  unfold World.setCell putBlock
  congr 1
  apply Array.ext_getElem?
  intro i
  rw [Array.getElem?_modify, Array.getElem?_setIfInBounds]
  have hlt : cb < w.heap.size := by
    rcases Nat.lt_or_ge cb w.heap.size with h' | h'
    · exact h'
    · rw [Array.getElem?_eq_none h'] at h; cases h
  by_cases hi : cb = i
  · subst hi; simp only [if_true, h, Option.map_some, hlt]; rfl
  · simp [hi]

theorem putBlock_twice (w : World) (cb : Nat) (o o' : Obj) : putBlock (putBlock w cb o) cb o' = putBlock w cb o' := by
  unfold putBlock
  congr 1
  apply Array.ext_getElem?
  intro i
  simp only [Array.getElem?_setIfInBounds, Array.size_setIfInBounds]
  by_cases hi : cb = i <;> simp [hi]

theorem splice_nil (l : List Value) (i : Nat) : splice l i [] = l := by simp [splice]
theorem splice_length {l vs : List Value} {i : Nat} (h : i + vs.length ≤ l.length) : (splice l i vs).length = l.length := by
  simp [splice]; omega
theorem splice_get {l vs : List Value} {i : Nat} (h : i + vs.length ≤ l.length) (j : Nat) :
    (splice l i vs)[j]? = if i ≤ j ∧ j < i + vs.length then vs[j - i]? else l[j]? := by
  unfold splice
  rw [List.append_assoc, List.getElem?_append]
  have hl : (l.take i).length = i := by simp; omega
  rw [hl]
  by_cases h1 : j < i
  · rw [if_pos h1, if_neg (by omega), List.getElem?_take, if_pos h1]
  · rw [if_neg h1, List.getElem?_append]
    by_cases h2 : j < i + vs.length
    · rw [if_pos (by omega), if_pos (by omega)]
    · rw [if_neg (by omega), if_neg (by omega), List.getElem?_drop]
      congr 1; omega
theorem splice_one {l : List Value} {i : Nat} (h : i < l.length) (v : Value) : splice l i [v] = l.set i v := by
  apply List.ext_getElem?
  intro j
  rw [splice_get (by simp; omega), List.getElem?_set]
  simp only [List.length_cons, List.length_nil]
  by_cases hj : i = j
  · subst hj; simp [h]
  · rw [if_neg (by omega), if_neg hj]
theorem splice_cons {l vs : List Value} {i : Nat} {v : Value} (h : i + (vs.length + 1) ≤ l.length) : splice (l.set i v) (i + 1) vs = splice l i (v :: vs) := by
  apply List.ext_getElem?
  intro j
  rw [splice_get (by simp; omega), splice_get (by simp; omega), List.getElem?_set]
  simp only [List.length_cons]
  by_cases hj : i = j
  · subst hj
    rw [if_neg (by omega), if_pos rfl, if_pos (by omega), if_pos (by omega)]; simp
  · by_cases h2 : i + 1 ≤ j ∧ j < i + 1 + vs.length
    · rw [if_pos h2, if_pos (by omega), show j - i = (j - (i + 1)) + 1 by omega, List.getElem?_cons_succ]
    · rw [if_neg h2, if_neg hj, if_neg (by omega)]

theorem run_storeCells {P : Program} {cb o e lo hi : Nat} : ∀ (vs : List Value) (i : Nat) (w : World) (cc : Array Value),
    w.heap[cb]? = some (.cells cc e (lo, hi)) → o + i + vs.length ≤ cc.size → Free lo hi cc.size → (∀ v ∈ vs, v.oneCell' = true) →
    (storeCells ⟨cb, o, none⟩ vs i).run P w = .ok () (if vs = [] then w else putBlock w cb (.cells ⟨splice cc.toList (o + i) vs⟩ e (lo, hi)))
  | [], i, w, cc, h, _, _, _ => by simp [storeCells]
  | v :: vs, i, w, cc, h, hs, hf, h1 => by
    have hlt : cb < w.heap.size := by
      rcases Nat.lt_or_ge cb w.heap.size with h' | h'
      · exact h'
      · rw [Array.getElem?_eq_none h'] at h; cases h
    simp only [List.length_cons] at hs
    have hadd : (⟨cb, o, none⟩ : Addr).add i = ⟨cb, o + i, none⟩ := add_of_none rfl i
    have hst : (store ((⟨cb, o, none⟩ : Addr).add i) v).run P w = .ok () (putBlock w cb (.cells (cc.setIfInBounds (o + i) v) e (lo, hi))) := by
      rw [hadd, run_store P w _ v _ (h1 v (by simp)), cell_of_heap h, frozen_of_heap h, hf.not (show o + i < cc.size by omega)]
      have : (cc[o + i]?) = some (cc[o + i]'(by omega)) := by simp
      rw [this]
      simp only [Bool.false_eq_true, if_false]
      rw [setCell_eq h]
    have ih := run_storeCells (P := P) (cb := cb) (o := o) (e := e) (lo := lo) (hi := hi) vs (i + 1) (putBlock w cb (.cells (cc.setIfInBounds (o + i) v) e (lo, hi))) (cc.setIfInBounds (o + i) v)
      (putBlock_self hlt) (by simp; omega) (by simpa using hf) (fun x hx => h1 x (by simp [hx]))
    simp only [storeCells, Sem.run_bind, hst, Result.andThen_ok, ih]
    congr 1
    rw [if_neg (by simp : ¬ (v :: vs = []))]
    by_cases hv : vs = []
    · subst hv
      rw [if_pos rfl, splice_one (by simpa using (by omega : o + i < cc.size))]
      congr 2
      exact Array.ext' (by simp)
    · rw [if_neg hv, putBlock_twice]
      congr 1
      simp only [Array.toList_setIfInBounds, ← Nat.add_assoc]
      rw [splice_cons (by simpa using (by omega : o + i + (vs.length + 1) ≤ cc.size))]

theorem free_mono {lo hi n n' : Nat} (h : Free lo hi n) (hn : n' ≤ n) : Free lo hi n' := fun i hi' => h i (Nat.lt_of_lt_of_le hi' hn)

theorem writeN_sim {P : Program} {w0 w : World} {m : Mu} {h h' : AHeap} (H : HRel m w0 h w) {a a' : Addr} {vs vs' : List Value}
    (hw : writeN h a vs = some h') (ha : ARel m a a') (hv : VRelL m vs vs') :
    ∃ w', (storeCells a' vs').run P w = .ok () w' ∧ HRel m w0 h' w' ∧ Post m h m h' := by
  unfold writeN at hw
  rcases ha with ⟨hs, rfl⟩ | ⟨t, cb, sz, k, hs, hm, rfl⟩
  · rw [hs] at hw; cases hw
  · rw [hs] at hw
    simp only at hw
    split at hw
    · cases hw
    rename_i hlo
    obtain ⟨_, hb⟩ := H.blk _ _ _ _ _ hm
    obtain ⟨hbl, hcl⟩ := H.lt hm
    cases hx : h.bs[a.block]? with
    | none => rw [hx] at hw; cases hw
    | some x =>
      rw [hx] at hw hb
      cases x with
      | cells c fz =>
        simp only at hw
        split at hw
        · rename_i hc
          obtain ⟨ht, hoff, hfz, hok⟩ := hc
          cases hw
          obtain ⟨_, cc, e, lo, hi, h1, h2, h3, h4⟩ := hb
          have hlen : c.length = cc.size := by simpa using h3.1
          have hst := run_storeCells (P := P) (cb := cb) (o := a.off) (e := e) (lo := lo) (hi := hi) vs' 0 w cc h1 (by rw [← hv.1]; omega) (h2 ▸ (h4 hfz).1) (hv.ok hok)
          refine ⟨_, hst, ?_⟩
          refine H.change hbl (by omega) ⟨t, by simp [hm]⟩ (fun _ _ _ h => h) (fun _ _ _ => rfl) (by split <;> simp [putBlock_size]) ?_ (by split <;> rfl) (by split <;> rfl) (by split <;> rfl) ?_
          · intro i hi' hne
            split
            · rfl
            · exact putBlock_other (fun e => hne t sz k (e ▸ hm))
          · intro t' cb' sz' k' hm'
            refine ⟨.inl ⟨t', sz', k', hm'⟩, ?_⟩
            obtain ⟨_, hb'⟩ := H.blk _ _ _ _ _ hm'
            rw [hx] at hb'
            obtain ⟨ht', cc', e', lo', hi', g1, g2, g3, g4⟩ := hb'
            rw [ht', ← ht, hm] at hm'
            obtain ⟨rfl, rfl, rfl⟩ := hm'
            rw [h1] at g1
            cases g1
            by_cases hve : vs' = []
            · rw [if_pos hve]
              have : vs = [] := List.eq_nil_of_length_eq_zero (by rw [hv.1, hve]; rfl)
              subst this
              rw [splice_nil]
              exact ⟨ht', cc, e, lo, hi, h1, g2, h3, fun _ => h4 hfz⟩
            · rw [if_neg hve]
              refine ⟨ht', ⟨splice cc.toList a.off vs'⟩, e, lo, hi, putBlock_self hcl, ?_, h3.splice hv _, fun _ => h4 hfz⟩
              simpa [g2] using splice_length (l := cc.toList) (vs := vs') (i := a.off) (by rw [← hv.1]; simp; omega)
        · cases hw
      | grow c last fz k0 =>
        simp only at hw
        split at hw
        · rename_i hc
          obtain ⟨ht, hoff, hfz, hok⟩ := hc
          cases hw
          obtain ⟨hk0, hk, ht1, htc, hlast, cc, e, lo, hi, h1, h2, h3, h4, h5⟩ := hb
          have hcur := h4 (by omega)
          have hlen : c.length ≤ cc.size := by omega
          have hst := run_storeCells (P := P) (cb := cb) (o := a.off) (e := e) (lo := lo) (hi := hi) vs' 0 w cc h1 (by rw [← hv.1]; omega) (h2 ▸ (h5 hfz).2 ht) (hv.ok hok)
          refine ⟨_, hst, ?_⟩
          refine H.change hbl (by omega) ⟨t, by simp [hm]⟩ (fun _ _ _ h => h) (fun _ _ _ => rfl) (by split <;> simp [putBlock_size]) ?_ (by split <;> rfl) (by split <;> rfl) (by split <;> rfl) ?_
          · intro i hi' hne
            split
            · rfl
            · exact putBlock_other (fun e => hne t sz k (e ▸ hm))
          · intro t' cb' sz' k' hm'
            refine ⟨.inl ⟨t', sz', k', hm'⟩, ?_⟩
            obtain ⟨_, hb'⟩ := H.blk _ _ _ _ _ hm'
            rw [hx] at hb'
            obtain ⟨hk0', hk', ht1', htc', hlast', cc', e', lo', hi', g1, g2, g3, g4, g5⟩ := hb'
            have hsl : (splice c a.off vs).length = c.length := splice_length hoff
            by_cases htt : t' = c.length + 1
            · rw [htt, ← ht, hm] at hm'
              obtain ⟨rfl, rfl, rfl⟩ := hm'
              rw [h1] at g1
              cases g1
              by_cases hve : vs' = []
              · rw [if_pos hve]
                have : vs = [] := List.eq_nil_of_length_eq_zero (by rw [hv.1, hve]; rfl)
                subst this
                rw [splice_nil]
                refine ⟨hk0', hk', ht1', htc', Nat.le_refl _, cc, e, lo, hi, h1, g2, g3, fun _ => ?_, fun _ => ⟨(h5 hfz).1, fun _ => (h5 hfz).2 ht⟩⟩
                rw [htt, ← ht]; exact hcur
              · rw [if_neg hve]
                refine ⟨hk0', hk', ht1', by rw [hsl]; exact htc', by rw [hsl]; exact Nat.le_refl _, ⟨splice cc.toList a.off vs'⟩, e, lo, hi, putBlock_self hcl, ?_, g3, fun _ => ?_, fun _ => ⟨(h5 hfz).1, fun _ => (h5 hfz).2 ht⟩⟩
                · simpa [g2] using splice_length (l := cc.toList) (vs := vs') (i := a.off) (by rw [← hv.1]; simp; omega)
                · have ee : t' - 1 = c.length := by omega
                  rw [ee]
                  rw [ht] at hcur
                  simp only [Nat.add_sub_cancel] at hcur
                  refine VRelL.of_some ?_ ?_
                  · simp only [List.length_take]
                    rw [splice_length hoff, splice_length (by rw [← hv.1]; simp; omega)]
                    simp; omega
                  · intro i x hxi
                    rw [List.getElem?_take] at hxi
                    split at hxi
                    · rename_i hil
                      rw [List.getElem?_take, if_pos hil, splice_get (by rw [← hv.1]; simp; omega)]
                      rw [splice_get hoff] at hxi
                      split at hxi
                      · rename_i hin
                        rw [if_pos (by rw [← hv.1]; exact hin)]
                        exact hv.get hxi
                      · rename_i hin
                        rw [if_neg (by rw [← hv.1]; exact hin)]
                        obtain ⟨y, hy, hr⟩ := hcur.get (i := i) (a := x) (by rw [List.getElem?_take, if_pos hil]; exact hxi)
                        rw [List.getElem?_take, if_pos hil] at hy
                        exact ⟨y, hy, hr⟩
                    · cases hxi
            · -- an elder header: nothing is said of its cells any more
              have hnl : ¬ c.length < t' := by omega
              have hgo : ∀ (W : World), (∃ x lo2 hi2, W.heap[cb']? = some (.cells x e' (lo2, hi2)) ∧ x.size = sz') → BRel m t' sz' k' W.heap[cb']? (some (.grow (splice c a.off vs) c.length fz k0)) := by
                rintro W ⟨x, lo2, hi2, hW, hxs⟩
                refine ⟨hk0', hk', ht1', by rw [hsl]; exact htc', by rw [hsl]; exact Nat.le_refl _, x, e', lo2, hi2, hW, hxs, g3, fun hl => absurd hl hnl, fun hz => ⟨(g5 hz).1, fun hl => absurd (by rw [hl, hsl]) htt⟩⟩
              refine hgo _ ?_
              by_cases hve : vs' = []
              · rw [if_pos hve]; exact ⟨cc', lo', hi', g1, g2⟩
              · rw [if_neg hve]
                by_cases hcc : cb' = cb
                · subst hcc
                  rw [h1] at g1; cases g1
                  refine ⟨⟨splice cc.toList a.off vs'⟩, lo, hi, putBlock_self hcl, ?_⟩
                  simpa [g2] using splice_length (l := cc.toList) (vs := vs') (i := a.off) (by rw [← hv.1]; simp; omega)
                · exact ⟨cc', lo', hi', by rw [putBlock_other hcc]; exact g1, g2⟩
        · cases hw
      | map es c => cases hw
      | siter s p => cases hw
      | loop ps A B nt snap st => cases hw
      | dfr tk => cases hw
      | hole => cases hw

theorem write1_eq {h : AHeap} {a : Addr} {v : Value} {h' : AHeap} (hw : write1 h a v = some h') : writeN h a [v] = some h' := by
  unfold write1 at hw
  unfold writeN
  cases hs : a.spot with
  | none => rw [hs] at hw; cases hw
  | some t =>
    rw [hs] at hw
    simp only at hw ⊢
    split at hw
    · cases hw
    rename_i hlo
    rw [if_neg hlo]
    cases hx : h.bs[a.block]? with
    | none => rw [hx] at hw; cases hw
    | some x =>
      rw [hx] at hw
      cases x with
      | cells c fz =>
        simp only at hw ⊢
        split at hw
        · rename_i hc
          rw [if_pos ⟨hc.1, by simp; omega, hc.2.2.1, by simp [hc.2.2.2]⟩, splice_one hc.2.1]
          exact hw
        · cases hw
      | grow c last fz k =>
        simp only at hw ⊢
        split at hw
        · rename_i hc
          rw [if_pos ⟨hc.1, by simp; omega, hc.2.2.1, by simp [hc.2.2.2]⟩, splice_one hc.2.1]
          exact hw
        · cases hw
      | map es c => cases hw
      | siter s p => cases hw
      | loop ps A B nt snap st => cases hw
      | dfr tk => cases hw
      | hole => cases hw

end Go.Ab

/- One operation of the abstract machine is one of the model's. -/
namespace Go.Ab

def OpRes (m : Mu) (w0 : World) (h : AHeap) (v : Value) (h' : AHeap) (r : Result Next) : Prop :=
  ∃ w' m', HRel m' w0 h' w' ∧ Post m h m' h' ∧ ((∃ v', r = .ok (.value v') w' ∧ VRel m' v v') ∨ (r = .ok .skip w' ∧ v = .tuple #[]))

theorem OpRes.same {m : Mu} {w0 : World} {h : AHeap} {v v' : Value} {w : World} {r : Result Next} (H : HRel m w0 h w) (hr : r = .ok (.value v') w) (hv : VRel m v v') :
    OpRes m w0 h v h r := ⟨w, m, H, Post.refl _ _, .inl ⟨v', hr, hv⟩⟩

section
variable {P : Program}
theorem szOf_spec {t n : Nat} (h : szOf P t = some n) : ∃ i, P.info? t = some i ∧ i.size = n := by
  unfold szOf at h
  cases hi : P.info? t with
  | none => rw [hi] at h; cases h
  | some i => rw [hi] at h; exact ⟨i, rfl, by simpa using h⟩
theorem byOf_spec {t n : Nat} (h : byOf P t = some n) : ∃ i, P.info? t = some i ∧ i.bytes = n := by
  unfold byOf at h
  cases hi : P.info? t with
  | none => rw [hi] at h; cases h
  | some i => rw [hi] at h; exact ⟨i, rfl, by simpa using h⟩
theorem zeroOf_spec {t : Nat} {z : Value} (h : zeroOf P t = some z) : ∃ i, P.info? t = some i ∧ i.zero = some z ∧ constOk z = true := by
  unfold zeroOf at h
  cases hi : P.info? t with
  | none => rw [hi] at h; cases h
  | some i =>
    rw [hi] at h
    simp only [Option.bind_some] at h
    cases hz : i.zero with
    | none => rw [hz] at h; cases h
    | some z' =>
      rw [hz] at h
      simp only [Option.bind_some] at h
      split at h
      · cases h; exact ⟨i, rfl, hz, by assumption⟩
      · cases h
theorem run_typeInfo {t : Nat} {i : TypeInfo} (h : P.info? t = some i) (w : World) : (typeInfo t).run P w = .ok i w := by simp [typeInfo, h]
theorem run_sizeOf {t n : Nat} (h : szOf P t = some n) (w : World) : (sizeOf t).run P w = .ok n w := by
  obtain ⟨i, hi, rfl⟩ := szOf_spec h
  simp [sizeOf, run_typeInfo hi]
theorem run_zeroValue {t : Nat} {z : Value} (h : zeroOf P t = some z) (w : World) : (zeroValue t).run P w = .ok z w := by
  obtain ⟨i, hi, hz, _⟩ := zeroOf_spec h
  simp [zeroValue, run_typeInfo hi, hz]
theorem run_under {t : Nat} {d : TypeDesc} (h : P.underlying t = some d) (w : World) : (underlying t).run P w = .ok d w := by simp [underlying, h]
theorem run_isAgg {t : Nat} {b : Bool} (h : aggT P t = some b) (w : World) : (isAgg t).run P w = .ok b w := by
  unfold aggT at h
  cases hu : P.underlying t with
  | none => rw [hu] at h; cases h
  | some d =>
    rw [hu] at h
    simp only [Option.map_some, Option.some.injEq] at h
    simp only [isAgg, Sem.run_bind, run_under hu, Result.andThen_ok]
    cases d <;> simp_all
theorem run_asI {x : Value} {y : Value} {m : Mu} {n : Int} (h : asI x = some n) (hv : VRel m x y) : ∃ k, y = .int k n ∧ ∀ P w, (asInt y).run P w = .ok n w := by
  cases hv <;> simp_all [asI]
  simp [asInt, asIntOf]

variable {C : Ctx} {t : List Value} {h h' : AHeap} {v : Value} {m : Mu} {w0 w : World} {ρ : Operand → Value} {o : Oper}

abbrev EvOk (m : Mu) (t : List Value) (ρ : Operand → Value) : Prop := ∀ x a, cArg x = some a → VRel m (a.ev t) (ρ x)

theorem sim_move {x : Operand} (hρ : EvOk m t ρ) (H : HRel m w0 h w) (ho : o.op = .move x ∨ o.op = .assign x) (e : aexec C t h (cOp P o) = some (v, h')) :
    OpRes m w0 h v h' ((execOp ρ o).run P w) := by
  have hc : cOp P o = match cArg x with | some a => .move a | none => .bad := by unfold cOp; rcases ho with ho | ho <;> rw [ho] <;> rfl
  have hr : (execOp ρ o).run P w = .ok (.value (ρ x)) w := by unfold execOp; rcases ho with ho | ho <;> rw [ho] <;> rfl
  rw [hc] at e
  cases hx : cArg x with
  | none => rw [hx] at e; simp [aexec] at e
  | some a =>
    rw [hx] at e
    simp only [aexec, Option.some.injEq, Prod.mk.injEq] at e
    obtain ⟨rfl, rfl⟩ := e
    exact OpRes.same H hr (hρ _ _ hx)

theorem sim_pick {c a b : Operand} (hρ : EvOk m t ρ) (H : HRel m w0 h w) (ho : o.op = .pick c a b) (e : aexec C t h (cOp P o) = some (v, h')) :
    OpRes m w0 h v h' ((execOp ρ o).run P w) := by
  unfold cOp at e
  rw [ho] at e
  simp only at e
  split at e
  · rename_i c' a' b' hc ha hb
    have h1 := hρ _ _ hc
    simp only [aexec] at e
    split at e
    · rename_i hv
      cases e
      rw [hv] at h1
      cases hx : ρ c <;> rw [hx] at h1 <;> cases h1
      exact OpRes.same H (v' := ρ a) (by simp [execOp, ho, hx, asBool]) (hρ _ _ ha)
    · rename_i hv
      cases e
      rw [hv] at h1
      cases hx : ρ c <;> rw [hx] at h1 <;> cases h1
      exact OpRes.same H (v' := ρ b) (by simp [execOp, ho, hx, asBool]) (hρ _ _ hb)
    · cases e
  · simp [aexec] at e

theorem VRel.cells {x y : Value} (hv : VRel m x y) (hok : (cellsOf x).all okCell = true) : VRelL m (cellsOf x) y.cells.toList := by
  cases hv with
  | any v => simp [cellsOf, okCell] at hok
  | agg x u h1 h2 => exact ⟨h1, h2⟩
  | tuple => simp [cellsOf, okCell] at hok
  | bool b => exact VRelL.cons (.bool b) (VRelL.nil _)
  | int k n => exact VRelL.cons (.int k n) (VRelL.nil _)
  | float k n => exact VRelL.cons (.float k n) (VRelL.nil _)
  | string s => exact VRelL.cons (.string s) (VRelL.nil _)
  | nilFunc => exact VRelL.cons .nilFunc (VRelL.nil _)
  | nilIface => exact VRelL.cons .nilIface (VRelL.nil _)
  | ptrNil => exact VRelL.cons .ptrNil (VRelL.nil _)
  | ptrOld a hs => exact VRelL.cons (.ptrOld a hs) (VRelL.nil _)
  | ptrNew off hm => exact VRelL.cons (.ptrNew off hm) (VRelL.nil _)
  | slNil => exact VRelL.cons .slNil (VRelL.nil _)
  | slOld a l c hs => exact VRelL.cons (.slOld a l c hs) (VRelL.nil _)
  | slPlain off l c hm => exact VRelL.cons (.slPlain off l c hm) (VRelL.nil _)
  | slEmpty b off a => exact VRelL.cons (.slEmpty b off a) (VRelL.nil _)
  | slExact off l c hm hc => exact VRelL.cons (.slExact off l c hm hc) (VRelL.nil _)
  | slRest off l c hm h1 h2 => exact VRelL.cons (.slRest off l c hm h1 h2) (VRelL.nil _)
  | slEnd off a hm h1 => exact VRelL.cons (.slEnd off a hm h1) (VRelL.nil _)
  | mapNil => exact VRelL.cons .mapNil (VRelL.nil _)
  | mapNew hm => exact VRelL.cons (.mapNew hm) (VRelL.nil _)
  | yield h => exact VRelL.cons (.yield h) (VRelL.nil _)
  | func f x y u v h0 h1 h2 h3 h4 => exact VRelL.cons (.func f x y u v h0 h1 h2 h3 h4) (VRelL.nil _)
  | iface t v w hx => exact VRelL.cons (.iface t v w hx) (VRelL.nil _)
/-- the cells of a value that may hold what cannot be stored -/
theorem VRel.cells' {x y : Value} (hv : VRel m x y) (hx : okCell x = true ∨ ∃ l, x = .agg l) : VRelL m (cellsOf x) y.cells.toList := by
  rcases hx with hx | ⟨l, rfl⟩
  · refine hv.cells ?_
    cases x <;> simp_all [cellsOf, okCell]
  · cases hv with
    | agg x u h1 h2 => exact ⟨h1, h2⟩

theorem free_zero (n : Nat) : Free 0 0 n := fun i _ => by omega

theorem sim_boxed {x : Value} {y : Value} (H : HRel m w0 h w) (hv : VRel m x y) (hok : (cellsOf x).all okCell = true) (e : TypeId) :
    ∃ w' m', w' = w.alloc (.cells y.cells e) ∧ HRel m' w0 (h.push (.cells (cellsOf x) (e + 1))) w' ∧ Post m h m' (h.push (.cells (cellsOf x) (e + 1))) ∧
      VRel m' (.pointer (some ⟨h.bs.length, 0, some 0⟩)) (.pointer (some ⟨w.heap.size, 0, none⟩)) := by
  have hc := hv.cells hok
  obtain ⟨h1, h2⟩ := H.push (blk := .cells (cellsOf x) (e + 1)) (o := .cells y.cells e) (t := 0) (sz := y.cells.size) (k := 0)
    ⟨rfl, y.cells, e, 0, 0, rfl, rfl, hc, fun _ => ⟨free_zero _, rfl⟩⟩
  exact ⟨_, _, rfl, h1, h2, .ptrNew 0 (Mu.set_self _ _ _ _)⟩

theorem sim_alloc {ty : TypeId} (H : HRel m w0 h w) (ho : o.op = .alloc ty) (e : aexec C t h (cOp P o) = some (v, h')) :
    OpRes m w0 h v h' ((execOp ρ o).run P w) := by
  unfold cOp at e
  rw [ho] at e
  simp only at e
  split at e
  · rename_i z hz
    simp only [aexec] at e
    split at e
    · rename_i hok
      cases e
      obtain ⟨i, hi, hz1, hz2⟩ := zeroOf_spec hz
      obtain ⟨w', m', rfl, h1, h2, h3⟩ := sim_boxed H (constOk_self (m := m) z hz2) hok ty
      exact ⟨_, m', h1, h2, .inl ⟨_, by simp [execOp, ho, Instr.alloc, run_zeroValue hz, newVar, newRow], h3⟩⟩
    · cases e
  · simp [aexec] at e

theorem sim_box {ty : TypeId} {x : Operand} (hρ : EvOk m t ρ) (H : HRel m w0 h w) (ho : o.op = .box ty x) (e : aexec C t h (cOp P o) = some (v, h')) :
    OpRes m w0 h v h' ((execOp ρ o).run P w) := by
  unfold cOp at e
  rw [ho] at e
  simp only at e
  split at e
  · rename_i a ha
    simp only [aexec] at e
    split at e
    · rename_i hok
      cases e
      obtain ⟨w', m', rfl, h1, h2, h3⟩ := sim_boxed H (hρ _ _ ha) hok ty
      exact ⟨_, m', h1, h2, .inl ⟨_, by simp [execOp, ho, Instr.box, newVar, newRow], h3⟩⟩
    · cases e
  · simp [aexec] at e

theorem ptrOf_spec {x : Value} {a : Addr} (h : ptrOf x = some a) : x = .pointer (some a) := by
  cases x with
  | pointer p => cases p <;> simp_all [ptrOf]
  | _ => simp [ptrOf] at h

theorem sim_load {ty : TypeId} {x : Operand} (hold : OldOk C.old w0) (hρ : EvOk m t ρ) (H : HRel m w0 h w) (ho : o.op = .load ty x)
    (e : aexec C t h (cOp P o) = some (v, h')) : OpRes m w0 h v h' ((execOp ρ o).run P w) := by
  unfold cOp at e
  rw [ho] at e
  simp only at e
  split at e
  · rename_i a n ha hg hn
    simp only [aexec] at e
    split at e
    · rename_i ad hp
      have h1 := hρ _ _ ha
      rw [ptrOf_spec hp] at h1
      obtain ⟨a', hx, har⟩ := h1.ptr
      cases hr : readN C.old h ad n with
      | none => rw [hr] at e; cases e
      | some c =>
        rw [hr] at e
        simp only [Option.map_some, Option.some.injEq, Prod.mk.injEq] at e
        obtain ⟨rfl, rfl⟩ := e
        obtain ⟨hl, c', hc', hrun⟩ := run_readN (P := P) hold H hr har
        refine OpRes.same H (v' := .agg ⟨c'⟩) ?_ (.agg _ _ hc'.1 hc'.2)
        simp [execOp, ho, Instr.loadAt, hx, Instr.sureAddr, loadVar, run_isAgg hg, run_sizeOf hn, hrun]
    · cases e
  · rename_i a n ha hg hn
    simp only [aexec] at e
    split at e
    · rename_i ad hp
      have h1 := hρ _ _ ha
      rw [ptrOf_spec hp] at h1
      obtain ⟨a', hx, har⟩ := h1.ptr
      cases hr : read1 C.old h ad with
      | none => rw [hr] at e; cases e
      | some c =>
        rw [hr] at e
        simp only [Option.map_some, Option.some.injEq, Prod.mk.injEq] at e
        obtain ⟨rfl, rfl⟩ := e
        obtain ⟨v', hv', hrel⟩ := read1_sim hold H hr har
        refine OpRes.same H (v' := v') ?_ hrel
        simp [execOp, ho, Instr.loadAt, hx, Instr.sureAddr, loadVar, run_isAgg hg, hv']
    · cases e
  · simp [aexec] at e

theorem storeVar_run {ty n : Nat} {a' : Addr} {y : Value} (hn : szOf P ty = some n) (hy : y.cells.size = n) :
    (storeVar ty a' y).run P w = (storeCells a' y.cells.toList).run P w := by
  simp [storeVar, run_sizeOf hn, hy]

theorem okCell_cells {x y : Value} (hv : VRel m x y) (hx : okCell x = true) : cellsOf x = [x] ∧ y.cells = #[y] := by
  cases hv <;> simp_all [okCell, cellsOf, Value.cells]

theorem sim_store {ty : TypeId} {x y : Operand} (hρ : EvOk m t ρ) (H : HRel m w0 h w) (ho : o.op = .store ty x y)
    (e : aexec C t h (cOp P o) = some (v, h')) : OpRes m w0 h v h' ((execOp ρ o).run P w) := by
  unfold cOp at e
  rw [ho] at e
  simp only at e
  split at e
  · rename_i a b n ha hb hg hn
    simp only [aexec] at e
    split at e
    · rename_i ad hp
      have h1 := hρ _ _ ha
      rw [ptrOf_spec hp] at h1
      obtain ⟨a', hx, har⟩ := h1.ptr
      split at e
      · rename_i hlen
        cases hw : writeN h ad (cellsOf (b.ev t)) with
        | none => rw [hw] at e; cases e
        | some h2 =>
          rw [hw] at e
          simp only [Option.map_some, Option.some.injEq, Prod.mk.injEq] at e
          obtain ⟨rfl, rfl⟩ := e
          have hok : (cellsOf (b.ev t)).all okCell = true := by
            unfold writeN at hw
            split at hw
            · cases hw
            · split at hw
              · cases hw
              · split at hw
                · split at hw
                  · rename_i hc; exact hc.2.2.2
                  · cases hw
                · split at hw
                  · rename_i hc; exact hc.2.2.2
                  · cases hw
                · cases hw
          have hcv := (hρ _ _ hb).cells hok
          obtain ⟨w', hrun, hH, hP⟩ := writeN_sim (P := P) H hw har hcv
          refine ⟨w', m, hH, hP, .inr ⟨?_, rfl⟩⟩
          have hsz : (ρ y).cells.size = n := by rw [← hlen]; simpa using hcv.1.symm
          simp [execOp, ho, Instr.storeAt, hx, Instr.sureAddr, storeVar_run hn hsz, hrun]
      · cases e
    · cases e
  · rename_i a b ha hb hg hn
    simp only [aexec] at e
    split at e
    · rename_i ad hp
      have h1 := hρ _ _ ha
      rw [ptrOf_spec hp] at h1
      obtain ⟨a', hx, har⟩ := h1.ptr
      cases hw : write1 h ad (b.ev t) with
      | none => rw [hw] at e; cases e
      | some h2 =>
        rw [hw] at e
        simp only [Option.map_some, Option.some.injEq, Prod.mk.injEq] at e
        obtain ⟨rfl, rfl⟩ := e
        have hok : okCell (b.ev t) = true := by
          unfold write1 at hw
          split at hw
          · cases hw
          · split at hw
            · cases hw
            · split at hw
              · split at hw
                · rename_i hc; exact hc.2.2.2
                · cases hw
              · split at hw
                · rename_i hc; exact hc.2.2.2
                · cases hw
              · cases hw
        obtain ⟨c1, c2⟩ := okCell_cells (hρ _ _ hb) hok
        obtain ⟨w', hrun, hH, hP⟩ := writeN_sim (P := P) H (write1_eq hw) har (VRelL.cons (hρ _ _ hb) (VRelL.nil _))
        refine ⟨w', m, hH, hP, .inr ⟨?_, rfl⟩⟩
        have hsz : (ρ y).cells.size = 1 := by rw [c2]; rfl
        simp [execOp, ho, Instr.storeAt, hx, Instr.sureAddr, storeVar_run hn hsz, c2, hrun]
    · cases e
  · simp [aexec] at e

theorem sim_nilCheck {x : Operand} (hρ : EvOk m t ρ) (H : HRel m w0 h w) (ho : o.op = .nilCheck x) (e : aexec C t h (cOp P o) = some (v, h')) :
    OpRes m w0 h v h' ((execOp ρ o).run P w) := by
  unfold cOp at e
  rw [ho] at e
  simp only at e
  split at e
  · rename_i a ha
    simp only [aexec] at e
    split at e
    · rename_i hok
      cases e
      have h1 := hρ _ _ ha
      refine OpRes.same H (v' := ρ x) ?_ h1
      unfold execOp
      rw [ho]
      simp only
      generalize a.ev t = x' at h1 hok
      generalize ρ x = y at h1 ⊢
      cases h1 <;> first | rfl | (exfalso; simp [nilOk] at hok; done)
    · cases e
  · simp [aexec] at e

end
end Go.Ab

/- Further operations: numbers, texts, comparisons, conversions, parts. -/
namespace Go.Ab
section
variable {P : Program} {C : Ctx} {t : List Value} {h h' : AHeap} {v : Value} {m : Mu} {w0 w : World} {ρ : Operand → Value} {o : Oper}

theorem decide_lt (a b : Int) : (decide (a < b)) = (a < b : Bool) := rfl

theorem abinI_run {op : BinOp} {k : IntKind} {a b : Int} (e : abinI op k a b = some v) (T : TypeId) (hs : op ≠ .shl ∧ op ≠ .shr) :
    (binOp op T (.int k a) (.int k b)).run P w = .ok v w ∧ VRel m v v := by
  cases op <;> simp only [abinI] at e <;> try (cases e; done)
  case quo => split at e; cases e; rename_i hb; cases e; exact ⟨by simp [binOp, Op.intDiv, hb], .int _ _⟩
  case rem => split at e; cases e; rename_i hb; cases e; exact ⟨by simp [binOp, Op.intDiv, hb], .int _ _⟩
  case eql => cases e; refine ⟨?_, .bool _⟩; simp [binOp, Op.intCmp]; rfl
  case neq =>
    cases e; refine ⟨?_, .bool _⟩
    simp only [binOp, Op.intCmp, Sem.run_pure, ne_eq, not_true, if_false, ite_not, if_true]
    congr 2
    by_cases hab : a = b <;> simp [hab]
  case add => cases e; exact ⟨by simp [binOp, Op.intArith], .int _ _⟩
  case sub => cases e; exact ⟨by simp [binOp, Op.intArith], .int _ _⟩
  case mul => cases e; exact ⟨by simp [binOp, Op.intArith], .int _ _⟩
  case and => cases e; exact ⟨by simp only [binOp, ne_eq, not_true_eq_false, if_false, Op.intBits, Sem.run_pure], .int _ _⟩
  case or => cases e; exact ⟨by simp only [binOp, ne_eq, not_true_eq_false, if_false, Op.intBits, Sem.run_pure], .int _ _⟩
  case xor => cases e; exact ⟨by simp only [binOp, ne_eq, not_true_eq_false, if_false, Op.intBits, Sem.run_pure], .int _ _⟩
  case andNot => cases e; exact ⟨by simp only [binOp, ne_eq, not_true_eq_false, if_false, Op.intBits, Sem.run_pure], .int _ _⟩
  all_goals (cases e; exact ⟨by simp [binOp, Op.intCmp], .bool _⟩)

theorem bytesVal_eq {a b : ByteArray} : (a.toList == b.toList) = decide (a.data.toList = b.data.toList) := by
  rw [ByteArray.toList_eq, ByteArray.toList_eq]; generalize a.data.toList = x; generalize b.data.toList = y; by_cases h : x = y <;> simp [h]

theorem abinS_run {op : BinOp} {a b : ByteArray} (e : abinS op a.data.toList b.data.toList = some v) (T : TypeId) :
    (binOp op T (.string a) (.string b)).run P w = .ok v w ∧ VRel m v v := by
  have e1 := ByteArray.toList_eq a
  have e2 := ByteArray.toList_eq b
  have ed : ∀ l l' : List UInt8, (l == l') = decide (l = l') := fun l l' => by by_cases hh : l = l' <;> simp [hh]
  cases op <;> simp only [abinS] at e <;> try (cases e; done)
  case add =>
    split at e
    · rename_i hl
      cases e
      refine ⟨?_, .string _⟩
      have h1 : a.size = a.data.toList.length := rfl
      have h2 : b.size = b.data.toList.length := rfl
      have hmax : IntKind.i64.max = 9223372036854775807 := by decide
      have hn : ¬ (((a.size + b.size : Nat) : Int) > IntKind.i64.max) := by
        rw [hmax, h1, h2]; unfold sizeLim at hl; omega
      simp only [binOp, Op.stringOp, hn, if_false, Sem.run_pure]
      have : (a ++ b).data = ⟨a.data.toList ++ b.data.toList⟩ := by
        apply Array.ext'; simp
      unfold str
      rw [← this]
    · cases e
  all_goals (cases e; refine ⟨?_, .bool _⟩; simp only [binOp, Op.stringOp, Sem.run_pure, e1, e2, ed]; first | done | rfl | (congr 2; simp))

theorem ashift_run {op : BinOp} {k k' : IntKind} {a b : Int} (e : ashift op k a b = some v) (T : TypeId) (hs : op = .shl ∨ op = .shr) :
    (binOp op T (.int k a) (.int k' b)).run P w = .ok v w ∧ VRel m v v := by
  unfold ashift at e
  split at e
  · cases e
  rename_i hb
  rcases hs with rfl | rfl
  · cases e; exact ⟨by simp [binOp, Op.shift, hb], .int _ _⟩
  · cases e; exact ⟨by simp [binOp, Op.shift, hb], .int _ _⟩

theorem abin_run {op : BinOp} {x y x' y' : Value} (e : abin op x y = some v) (hx : VRel m x x') (hy : VRel m y y') (T : TypeId) (ox oy : Operand) :
    (do eqGuard op T ox oy x' y'; binOp op T x' y' : Sem Value).run P w = .ok v w ∧ VRel m v v := by
  have hg : ∀ a b : Value, ((∃ k n, a = .int k n) ∨ ∃ s, a = .string s) → (eqGuard op T ox oy a b).run P w = .ok () w := by
    intro a b hab
    unfold eqGuard
    rcases hab with ⟨k, n, rfl⟩ | ⟨s, rfl⟩ <;> (split <;> rfl)
  unfold abin at e
  split at e
  · rename_i k a k' b
    cases hx; cases hy
    simp only [Sem.run_bind, hg _ _ (.inl ⟨k, a, rfl⟩), Result.andThen_ok]
    split at e
    · exact ashift_run e T (.inl rfl)
    · exact ashift_run e T (.inr rfl)
    · rename_i h1 h2
      split at e
      · rename_i hk; subst hk; exact abinI_run e T ⟨fun hh => h1 hh, fun hh => h2 hh⟩
      · cases e
  · cases hx; cases hy
    simp only [Sem.run_bind, hg _ _ (.inr ⟨_, rfl⟩), Result.andThen_ok]
    exact abinS_run e T
  · cases e

/- comparisons -/
theorem veqK_same {c : CK} {x y x' y' : Value} {b : Bool} (e : veqK c x y = some b) (hx : VRel m x x') (hy : VRel m y y') : x' = x ∧ y' = y := by
  unfold veqK at e
  split at e
  · cases hx; cases hy; exact ⟨rfl, rfl⟩
  · cases hx; cases hy; exact ⟨rfl, rfl⟩
  · cases hx; cases hy; exact ⟨rfl, rfl⟩
  · cases e
theorem veqL_same {s : List CK} {x y x' y' : List Value} {b : Bool} (e : veqL s x y = some b) (hx : VRelL m x x') (hy : VRelL m y y') : x' = x ∧ y' = y := by
  induction s generalizing x y x' y' b with
  | nil =>
    cases x with
    | cons a x => simp [veqL] at e
    | nil => cases y with
      | cons a x => simp [veqL] at e
      | nil => exact ⟨hx.nil_left, hy.nil_left⟩
  | cons c s ih =>
    cases x with
    | nil => simp [veqL] at e
    | cons a x => cases y with
      | nil => simp [veqL] at e
      | cons b' y =>
        simp only [veqL] at e
        split at e
        · rename_i p q h1 h2
          obtain ⟨a', u, rfl, r1, r2⟩ := hx.uncons
          obtain ⟨b'', u', rfl, r3, r4⟩ := hy.uncons
          obtain ⟨rfl, rfl⟩ := veqK_same h1 r1 r3
          obtain ⟨rfl, rfl⟩ := ih h2 r2 r4
          exact ⟨rfl, rfl⟩
        · cases e
theorem veqL_append {s s' : List CK} {x y : List Value} {b : Bool} (e : veqL (s ++ s') x y = some b) :
    ∃ b1 b2, veqL s (x.take s.length) (y.take s.length) = some b1 ∧ veqL s' (x.drop s.length) (y.drop s.length) = some b2 ∧ b = (b1 && b2) := by
  induction s generalizing x y b with
  | nil => exact ⟨true, b, by simp [veqL], by simpa using e, by simp⟩
  | cons c s ih =>
    cases x with
    | nil => simp [veqL] at e
    | cons a x => cases y with
      | nil => simp [veqL] at e
      | cons a' y =>
        simp only [List.cons_append, veqL] at e
        split at e
        · rename_i p q h1 h2
          cases e
          obtain ⟨b1, b2, g1, g2, rfl⟩ := ih h2
          refine ⟨p && b1, b2, ?_, by simpa using g2, by simp [Bool.and_assoc]⟩
          simp [veqL, h1, g1]
        · cases e
theorem veqL_len {s : List CK} {x y : List Value} {b : Bool} (e : veqL s x y = some b) : x.length = s.length ∧ y.length = s.length := by
  induction s generalizing x y b with
  | nil => cases x <;> cases y <;> simp_all [veqL]
  | cons c s ih =>
    cases x with
    | nil => simp [veqL] at e
    | cons a x => cases y with
      | nil => simp [veqL] at e
      | cons a' y =>
        simp only [veqL] at e
        split at e
        · rename_i h2; simp [ih h2]
        · cases e

def wrap (P : Program) (T : TypeId) (c : List Value) : Value := match aggT P T with
  | some true => .agg ⟨c⟩
  | _ => c.headD (.tuple #[])

theorem part_run {T : TypeId} {s : Nat} (hs : szOf P T = some s) (hu : (aggT P T).isSome) (h1 : aggT P T = some false → s = 1) (xs : Array Value) (off : Nat) (hl : off + s ≤ xs.size) :
    (part T xs off).run P w = .ok (wrap P T ((xs.toList.drop off).take s)) w := by
  obtain ⟨b, hb⟩ := Option.isSome_iff_exists.1 hu
  unfold part wrap
  simp only [Sem.run_bind, run_isAgg hb, Result.andThen_ok, hb]
  cases b with
  | true =>
    simp only [if_true, Sem.run_bind, run_sizeOf hs, Result.andThen_ok, Sem.run_pure]
    congr 2
    apply Array.ext'
    simp [List.take_drop]
  | false =>
    have := h1 hb
    subst this
    have hoff : xs[off]? = some (xs[off]'(by omega)) := by simp
    simp only [Bool.false_eq_true, if_false, hoff, Sem.run_pure]
    congr 1
    have hd : xs.toList.drop off = xs[off]'(by omega) :: xs.toList.drop (off + 1) := by
      rw [List.drop_eq_getElem_cons (by simpa using (by omega : off < xs.size))]; simp
    rw [hd]; rfl

theorem shapeT_facts {d : Nat} {T : TypeId} {s : List CK} (e : shapeT P d T = some s) : (aggT P T).isSome ∧ (aggT P T = some false → s.length = 1) := by
  cases d with
  | zero => simp [shapeT] at e
  | succ d =>
    simp only [shapeT] at e
    unfold aggT
    split at e
    · rename_i h; cases e; simp [h]
    · rename_i h; cases e; simp [h]
    · rename_i h; cases e; simp [h]
    · rename_i h; simp [h]
    · rename_i h; simp [h]
    · cases e

def KindT (P : Program) (T : TypeId) : CK → Prop
  | .b => P.underlying T = some .bool
  | .i => ∃ k, P.underlying T = some (.int k)
  | .s => P.underlying T = some .string
theorem veqK_run {c : CK} {d : Nat} {T : TypeId} {x y : Value} {b : Bool} (e : veqK c x y = some b) (hT : KindT P T c) :
    (Op.equalIn (d + 1) T x y).run P w = .ok b w := by
  cases c <;> cases x <;> cases y <;> simp only [veqK, reduceCtorEq] at e
  · cases e; simp only [KindT] at hT
    rw [run_equalIn_bool' w d T _ _ hT]; congr 1
  · rename_i k1 n1 k2 n2
    by_cases hk : k1 = k2
    · rw [if_pos hk] at e
      subst hk
      simp only [Option.some.injEq] at e
      subst e
      simp only [KindT] at hT
      obtain ⟨k, hk⟩ := hT
      rw [run_equalIn_int w d T _ _ _ _ hk]; congr 1
    · rw [if_neg hk] at e; cases e
  · cases e; simp only [KindT] at hT
    rw [run_equalIn_string w d T _ _ hT, bytesVal_eq]

theorem eqFields_run {f : TypeId → Option (List CK)} {D : Nat} (ih : ∀ T s, f T = some s → ∀ cx cy b, veqL s cx cy = some b → (Op.equalIn D T (wrap P T cx) (wrap P T cy)).run P w = .ok b w)
    (hf : ∀ T s, f T = some s → (aggT P T).isSome ∧ (aggT P T = some false → s.length = 1)) (xs ys : Array Value) :
    ∀ (fs : List Field) (off : Nat) (s : List CK) (b : Bool), shapeFs P f fs off = some s → off + s.length ≤ xs.size → off + s.length ≤ ys.size → veqL s (xs.toList.drop off) (ys.toList.drop off) = some b →
      (Op.eqFields D xs ys fs).run P w = .ok b w
  | [], off, s, b, e, _, _, h => by
    simp only [shapeFs, Option.some.injEq] at e
    subst e
    have hb : b = true := by
      cases hx : xs.toList.drop off with
      | nil => cases hy : ys.toList.drop off with
        | nil => rw [hx, hy] at h; simp [veqL] at h; exact h
        | cons => rw [hx, hy] at h; simp [veqL] at h
      | cons => rw [hx] at h; simp [veqL] at h
    subst hb
    simp [Op.eqFields]
  | x :: r, off, s, b, e, hlx, hly, h => by
    simp only [shapeFs] at e
    split at e
    · rename_i hc
      obtain ⟨hn, ho⟩ := hc
      split at e
      · rename_i s1 hs1
        split at e
        · rename_i hsz
          cases hr : shapeFs P f r (off + s1.length) with
          | none => rw [hr] at e; cases e
          | some s2 =>
            rw [hr] at e
            simp only [Option.map_some, Option.some.injEq] at e
            subst e
            simp only [List.length_append] at hlx hly
            obtain ⟨b1, b2, g1, g2, rfl⟩ := veqL_append h
            obtain ⟨f1, f2⟩ := hf _ _ hs1
            have p1 := part_run (w := w) hsz f1 f2 xs off (by omega)
            have p2 := part_run (w := w) hsz f1 f2 ys off (by omega)
            have q := ih _ _ hs1 _ _ _ g1
            have rr := eqFields_run ih hf xs ys r (off + s1.length) s2 b2 hr (by omega) (by omega) (by simpa [List.drop_drop] using g2)
            unfold Op.eqFields
            rw [if_pos hn, ho]
            simp only [Sem.run_bind, p1, p2, q, Result.andThen_ok]
            cases b1
            · simp
            · simpa using rr
        · cases e
      · cases e
    · cases e

theorem eqItems_run {D : Nat} {E : TypeId} {s : List CK} (ih : ∀ cx cy b, veqL s cx cy = some b → (Op.equalIn D E (wrap P E cx) (wrap P E cy)).run P w = .ok b w)
    (hsz : szOf P E = some s.length) (hf : (aggT P E).isSome ∧ (aggT P E = some false → s.length = 1)) (xs ys : Array Value) :
    ∀ (n j : Nat) (b : Bool), (j + n) * s.length ≤ xs.size → (j + n) * s.length ≤ ys.size → veqL (List.replicate n s).flatten (xs.toList.drop (j * s.length)) (ys.toList.drop (j * s.length)) = some b →
      (Op.eqItems D E s.length xs ys (List.range' j n)).run P w = .ok b w
  | 0, j, b, _, _, h => by
    have hb : b = true := by
      simp only [List.replicate_zero, List.flatten_nil] at h
      cases hx : xs.toList.drop (j * s.length) with
      | nil => cases hy : ys.toList.drop (j * s.length) with
        | nil => rw [hx, hy] at h; simp [veqL] at h; exact h
        | cons => rw [hx, hy] at h; simp [veqL] at h
      | cons => rw [hx] at h; simp [veqL] at h
    subst hb
    simp [Op.eqItems]
  | n + 1, j, b, hlx, hly, h => by
    rw [List.replicate_succ, List.flatten_cons] at h
    obtain ⟨b1, b2, g1, g2, rfl⟩ := veqL_append h
    have hmul : (j + (n + 1)) * s.length = j * s.length + s.length + n * s.length := by rw [Nat.add_mul, Nat.add_mul]; omega
    have hmul2 : (j + 1 + n) * s.length = j * s.length + s.length + n * s.length := by rw [Nat.add_mul, Nat.add_mul]; omega
    have p1 := part_run (w := w) hsz hf.1 hf.2 xs (j * s.length) (by omega)
    have p2 := part_run (w := w) hsz hf.1 hf.2 ys (j * s.length) (by omega)
    have q := ih _ _ _ g1
    have rr := eqItems_run ih hsz hf xs ys n (j + 1) b2 (by omega) (by omega) (by rw [Nat.add_mul, Nat.one_mul]; simpa [List.drop_drop] using g2)
    rw [List.range'_succ]
    unfold Op.eqItems
    simp only [Sem.run_bind, p1, p2, q, Result.andThen_ok]
    cases b1
    · simp
    · simpa using rr

theorem shape_run : ∀ (d : Nat) (T : TypeId) (s : List CK), shapeT P d T = some s → ∀ (D : Nat), d ≤ D → ∀ cx cy b, veqL s cx cy = some b →
    (Op.equalIn D T (wrap P T cx) (wrap P T cy)).run P w = .ok b w
  | 0, T, s, e, _, _, _, _, _, _ => by simp [shapeT] at e
  | d + 1, T, s, e, D, hD, cx, cy, b, h => by
    obtain ⟨D, rfl⟩ : ∃ D', D = D' + 1 := ⟨D - 1, by omega⟩
    have one : ∀ c, s = [c] → aggT P T = some false → ∃ x y, wrap P T cx = x ∧ wrap P T cy = y ∧ veqK c x y = some b := by
      intro c hs ha
      subst hs
      cases cx with
      | nil => simp [veqL] at h
      | cons x cx => cases cy with
        | nil => simp [veqL] at h
        | cons y cy =>
          simp only [veqL] at h
          split at h
          · rename_i p q h1 h2
            cases h
            have hq : q = true := by cases cx <;> cases cy <;> simp_all [veqL]
            subst hq
            exact ⟨x, y, by simp [wrap, ha], by simp [wrap, ha], by simpa using h1⟩
          · cases h
    simp only [shapeT] at e
    split at e
    · rename_i hu
      cases e
      obtain ⟨x, y, hx, hy, hk⟩ := one _ rfl (by simp [aggT, hu])
      rw [hx, hy]; exact veqK_run hk hu
    · rename_i k hu
      cases e
      obtain ⟨x, y, hx, hy, hk⟩ := one _ rfl (by simp [aggT, hu])
      rw [hx, hy]; exact veqK_run hk ⟨k, hu⟩
    · rename_i hu
      cases e
      obtain ⟨x, y, hx, hy, hk⟩ := one _ rfl (by simp [aggT, hu])
      rw [hx, hy]; exact veqK_run hk hu
    · rename_i fs hu
      split at e
      · rename_i hc
        have ha : aggT P T = some true := by simp [aggT, hu]
        obtain ⟨l1, l2⟩ := veqL_len h
        have hfo : P.fieldsOf T = fs := by simp [Program.fieldsOf, hu]
        simp only [wrap, ha]
        rw [run_equalIn_struct w D T _ _ (by rw [hfo]; exact hu) hc.1, hfo]
        exact eqFields_run (fun T s hs cx cy b => shape_run d T s hs D (by omega) cx cy b) (fun T s hs => shapeT_facts hs) ⟨cx⟩ ⟨cy⟩ fs.toList 0 s b e (by simp; omega) (by simp; omega) (by simpa using h)
      · cases e
    · rename_i n E hu
      split at e
      · rename_i s1 hs1
        split at e
        · rename_i hsz
          cases e
          have ha : aggT P T = some true := by simp [aggT, hu]
          obtain ⟨l1, l2⟩ := veqL_len h
          obtain ⟨i, hi, hi2⟩ := szOf_spec hsz
          have hce : P.cellsOf E = s1.length := by simp [Program.cellsOf, hi, hi2]
          simp only [wrap, ha]
          rw [run_equalIn_array w D _ _ hu hi, hce, List.range_eq_range']
          have hlen : (List.replicate n s1).flatten.length = n * s1.length := by simp
          exact eqItems_run (fun cx cy b => shape_run d E s1 hs1 D (by omega) cx cy b) hsz (shapeT_facts hs1) ⟨cx⟩ ⟨cy⟩ n 0 b (by simp; omega) (by simp; omega) (by simpa using h)
        · cases e
      · cases e
    · cases e

end
end Go.Ab

/-
  Whatever the abstract machine says of a call holds of the model's call, for a program whose compiled functions stand in the machine's table; no condition.
-/
import Derived.Test.YtbcadgoemkjbeaaDoorAbB
import Derived.Orders
import Derived.Defers
import Derived.AtR
import Derived.RangeFuncRecord
import Derived.Carry
import Derived.ChangeSame

set_option linter.unusedSimpArgs false
set_option linter.unusedVariables false
set_option linter.unusedSectionVars false

/- Which operations leave the memory alone; what an operation reads; drawn regions' order and its check; the compiling of code. -/
namespace Go.Ab

def pureOp : AOp → Bool
  | .move _ | .pick .. | .build .. | .nilCheck _ | .bin .. | .eq .. | .un .. | .convInt .. | .convStr _ | .rune2str _ | .mkIface .. | .mkFunc ..
  | .sliceStr .. | .fieldAddr .. | .field1 .. | .fieldN .. | .idxAddrArr .. | .idxAddrSl .. | .idxStr .. | .idxArr1 .. | .idxArrN .. | .tassert .. | .extract ..
  | .len _ | .lenS _ | .lenArr _ | .cap _ | .min2 .. | .max2 .. | .min3 .. | .unsafeSliceData _ => true
  | .buildSlice _ _ n _ => n == 0
  | _ => false
def readOp : AOp → Bool
  | .load1 _ | .loadN .. | .lookup .. | .lenMap _ | .bytes2str _ | .sliceSl .. | .sliceArr .. | .toUnsafe _ | .fromUnsafe .. => true
  | _ => false

theorem map_pair {α : Type} {o : Option α} {f : α → Value} {h h' : AHeap} {v : Value} (e : o.map (fun x => (f x, h)) = some (v, h')) :
    h' = h ∧ ∀ h2 : AHeap, o.map (fun x => (f x, h2)) = some (v, h2) := by
  cases o with
  | none => cases e
  | some x => simp only [Option.map_some, Option.some.injEq, Prod.mk.injEq] at e ⊢; obtain ⟨rfl, rfl⟩ := e; simp

theorem pureOp_spec {C : Ctx} {t : List Value} {h h' : AHeap} {op : AOp} {v : Value} (hp : pureOp op = true) (e : aexec C t h op = some (v, h')) :
    h' = h ∧ ∀ h2, aexec C t h2 op = some (v, h2) := by
  cases op <;> simp only [pureOp, Bool.false_eq_true] at hp <;> simp only [aexec] at e ⊢
  all_goals first
    | exact map_pair e
    | (cases e; exact ⟨rfl, fun _ => rfl⟩)
    | skip
  case buildSlice e0 z n ps =>
    simp only [beq_iff_eq] at hp
    subst hp
    split at e
    · rename_i c hc
      split at e
      · rename_i hk
        simp only [if_true, Option.some.injEq, Prod.mk.injEq] at e ⊢
        obtain ⟨rfl, rfl⟩ := e
        simp [hc, hk]
      · cases e
    · cases e
  all_goals (repeat' split at e)
  all_goals first
    | (cases e; done)
    | (cases e; refine ⟨rfl, fun _ => ?_⟩; simp_all; done)
    | (obtain ⟨h1, h2⟩ := map_pair e; refine ⟨h1, fun h3 => ?_⟩; have := h2 h3; simp_all; done)

theorem readOp_spec {C : Ctx} {t : List Value} {h h' : AHeap} {op : AOp} {v : Value} (hp : readOp op = true) (e : aexec C t h op = some (v, h')) : h' = h := by
  cases op <;> simp only [readOp, Bool.false_eq_true] at hp <;> simp only [aexec] at e
  all_goals (repeat' split at e)
  all_goals first
    | (cases e; done)
    | (cases e; rfl)
    | exact (map_pair e).1
    | (simp only [Option.map_eq_some_iff] at e; obtain ⟨_, _, e⟩ := e; cases e; rfl)

def optArg : Option AArg → List AArg
  | some a => [a]
  | none => []
def AOp.args : AOp → List AArg
  | .move x | .box _ x | .load1 x | .loadN _ x | .nilCheck x | .un _ x | .convInt _ x | .convStr x | .str2bytes _ x | .bytes2str x | .rune2str x | .mkIface _ x
  | .fieldAddr _ x | .field1 _ x | .fieldN _ _ x | .mapClear x | .rangeStr x | .nextStr x | .tassert _ _ _ x | .extract _ x | .len x | .lenS x | .lenMap x
  | .cap x | .unsafeSliceData x | .toUnsafe x | .fromUnsafe _ x | .clearS _ x => [x]
  | .pick a b c | .mapUpd _ a b c | .min3 a b c => [a, b, c]
  | .build _ ps | .buildSlice _ _ _ ps => ps.map fun p => p.2.2
  | .store1 a b | .storeN _ a b | .bin _ a b | .eq _ _ a b | .mkSlice _ _ _ _ a b | .idxAddrArr _ _ a b | .idxAddrSl _ a b | .idxStr a b | .idxArr1 _ a b
  | .idxArrN _ _ a b | .lookup _ _ _ a b | .mapDel _ a b | .append _ _ _ a b | .copy _ a b | .min2 a b | .max2 a b | .unsafeStr _ a b => [a, b]
  | .mkFunc _ a b => a ++ b
  | .mkMap | .lenArr _ | .bad => []
  | .sliceStr x a b => x :: (optArg a ++ optArg b)
  | .sliceSl _ x a b c | .sliceArr _ _ x a b c => x :: (optArg a ++ optArg b ++ optArg c)
  | .call _ l => l
  | .callv f l | .defer f l | .invoke f _ l | .deferInvoke f _ l => f :: l

theorem optI_congr {t t' : List Value} {o : Option AArg} (h : ∀ a ∈ optArg o, a.ev t = a.ev t') : optI t o = optI t' o := by
  cases o with
  | none => rfl
  | some a => simp only [optI]; rw [h a (by simp [optArg])]

theorem mapEv_congr {t t' : List Value} {l : List AArg} (h : ∀ a ∈ l, a.ev t = a.ev t') : l.map (·.ev t) = l.map (·.ev t') := List.map_congr_left h

theorem aexec_congr {C : Ctx} {t t' : List Value} {h : AHeap} {op : AOp} (hx : ∀ a ∈ op.args, a.ev t = a.ev t') : aexec C t h op = aexec C t' h op := by
  cases op <;> simp only [AOp.args] at hx <;> simp only [aexec]
  case build z ps => rw [List.map_congr_left (g := fun (x : Nat × Nat × AArg) => (x.1, x.2.1, x.2.2.ev t')) fun p hp => by rw [← hx p.2.2 (List.mem_map_of_mem hp)]]
  case buildSlice e0 z n ps => rw [List.map_congr_left (g := fun (x : Nat × Nat × AArg) => (x.1, x.2.1, x.2.2.ev t')) fun p hp => by rw [← hx p.2.2 (List.mem_map_of_mem hp)]]
  case mkFunc f a b => rw [mapEv_congr fun x h => hx x (by simp [h]), mapEv_congr (l := b) fun x h => hx x (by simp [h])]
  case sliceStr x a b => rw [hx x (by simp), optI_congr fun y h => hx y (by simp [h]), optI_congr (o := b) fun y h => hx y (by simp [h])]
  case sliceSl x a b c => rw [hx _ (by simp), optI_congr fun y h => hx y (by simp [h]), optI_congr (o := b) fun y h => hx y (by simp [h]), optI_congr (o := c) fun y h => hx y (by simp [h])]
  case sliceArr x a b c => rw [hx _ (by simp), optI_congr fun y h => hx y (by simp [h]), optI_congr (o := b) fun y h => hx y (by simp [h]), optI_congr (o := c) fun y h => hx y (by simp [h])]
  all_goals first
    | rfl
    | (simp only [List.mem_cons, List.not_mem_nil, or_false, forall_eq_or_imp, forall_eq] at hx; simp only [hx]; done)
    | (simp only [List.mem_cons, List.not_mem_nil, or_false, forall_eq_or_imp, forall_eq] at hx; obtain ⟨h1, h2⟩ := hx; rw [h1, h2]; done)
    | (simp only [List.mem_cons, List.not_mem_nil, or_false, forall_eq_or_imp, forall_eq] at hx; obtain ⟨h1, h2, h3⟩ := hx; rw [h1, h2, h3]; done)

theorem target_congr {C : Ctx} {t t' : List Value} {op : AOp} (hx : ∀ a ∈ op.args, a.ev t = a.ev t') : target C t op = target C t' op := by
  cases op <;> simp only [AOp.args] at hx <;> simp only [target]
  case call f l => rw [mapEv_congr hx]
  case callv f l => rw [hx f (by simp), mapEv_congr (l := l) fun y h => hx y (by simp [h])]
  case defer f l => rw [hx f (by simp), mapEv_congr (l := l) fun y h => hx y (by simp [h])]
  case invoke f _ l => rw [hx f (by simp), mapEv_congr (l := l) fun y h => hx y (by simp [h])]

theorem exec1_congr {C : Ctx} {go : K} {t t' : List Value} {h : AHeap} {op : AOp} (hx : ∀ a ∈ op.args, a.ev t = a.ev t') : exec1 C go t h op = exec1 C go t' h op := by
  unfold exec1
  rw [aexec_congr hx, target_congr hx]

/- drawn regions -/

def hasBit (m i : Nat) : Bool := m.testBit i
def cstParts : List (Nat × Nat × AArg) → Bool
  | [] => true
  | (_, _, .cst _) :: l => cstParts l
  | _ => false
/-- new memory that is known ahead -/
def isLit : AOp → Bool
  | .box _ (.cst _) => true
  | .buildSlice _ _ n ps => n != 0 && cstParts ps
  | _ => false
/-- 0: no memory; 1: reads; 2: acts; 3: new memory -/
def clsA (lt : Bool) (md : FuncId → Bool) : AOp → Nat
  | .call f _ => if md f then 1 else 2
  | .box _ (.cst _) => 3
  | op => if pureOp op then 0 else if readOp op then 1 else if lt && isLit op then 3 else 2
def isAlloc : Op → Bool
  | .alloc _ | .buildSlice .. => true
  | _ => false
def clsO (lt : Bool) (md : FuncId → Bool) (o : Oper) (op : AOp) : Nat :=
  let c := clsA lt md op
  if c == 3 && !isAlloc o.op then 2 else c

def tmpsOf : List AArg → List Nat
  | [] => []
  | .tmp i :: l => i :: tmpsOf l
  | _ :: l => tmpsOf l
def readsA (o : AOper) : List Nat := (match o.guard with | some (g, _) => [g] | none => []) ++ tmpsOf o.op.args

def edgesOf (o : Oper) : List Nat := (o.after.toList.filter (Region.binds .any)).map (·.on)
def ancMask (es : List (List Nat)) : Nat → List Nat → Nat → Nat
  | 0, _, acc => acc
  | f + 1, todo, acc => match todo with
    | [] => acc
    | j :: r => if hasBit acc j then ancMask es f r acc else ancMask es f (es.getD j [] ++ r) (acc ||| (1 <<< j))
/-- in text order, but new memory as soon as may be, and what only reads before what acts -/
def pickOrder (es : List (List Nat)) (cl : List Nat) : Nat → List Nat → Nat → List Nat
  | 0, _, _ => []
  | f + 1, left, done =>
    let ready := left.filter fun i => (es.getD i []).all (hasBit done)
    let best := match ready.find? (fun i => cl.getD i 2 == 3) with
      | some i => some i
      | none => match ready.find? (fun i => cl.getD i 2 != 2) with
        | some i => some i
        | none => ready.head?
    match best with
    | some i => i :: pickOrder es cl f (left.filter (· != i)) (done ||| (1 <<< i))
    | none => []

structure DI where
  n : Nat
  ops : Array Oper
  c : List AOper
  cl : List Nat
  es : List (List Nat)
  anc : List Nat
  L : List Nat
  pos : List Nat
  lt : Bool
def DI.A (d : DI) (i j : Nat) : Bool := hasBit (d.anc.getD i 0) j
def DI.p (d : DI) (i : Nat) : Nat := d.pos.getD i 0
def DI.heavy (d : DI) (i : Nat) : Bool := d.cl.getD i 2 == 2
def DI.dst (d : DI) (i : Nat) : Option Nat := (d.c[i]?).bind (·.dst)
def DI.lightBetween (d : DI) (a b : Nat) : Bool := (List.range d.n).all fun q => if a ≤ q ∧ q < b then d.cl.getD (d.L.getD q 0) 2 ≤ 1 else true
/-- at which other stages may this reader run -/
def DI.skip (d : DI) (x j : Nat) : Bool :=
  d.A x j || ((List.range d.n).any fun j' => d.heavy j' && d.A j' x && d.A j j') || (decide (d.p x < d.p j) && d.lightBetween (d.p x) (d.p j))
def DI.skipEnd (d : DI) (x : Nat) : Bool :=
  ((List.range d.n).any fun j' => d.heavy j' && d.A j' x) || d.lightBetween (d.p x) d.n
def DI.un (d : DI) (x : Nat) : List Nat :=
  if d.cl.getD x 2 == 1 then
    (((List.range d.n).filter fun j => d.heavy j && !d.skip x j).map d.p) ++ (if d.skipEnd x then [] else [d.n])
  else []
def DI.ok (d : DI) : Bool :=
  let r := List.range d.n
  d.L.length == d.n && d.ops.size == d.n && d.c.length == d.n &&
  (r.all fun i => decide (d.p i < d.n) && d.L[d.p i]? == some i) &&
  (r.all fun q => match d.L[q]? with | some i => decide (i < d.n) && d.p i == q | none => false) &&
  (r.all fun i => (edgesOf (d.ops.getD i default)).all fun e => decide (e < d.n) && decide (d.p e < d.p i)) &&
  (r.all fun i => r.all fun j => !d.A i j || (decide (d.p j < d.p i) && (edgesOf (d.ops.getD i default)).any fun e => e == j || d.A e j)) &&
  (r.all fun i => match d.c[i]? with
    | some o => (readsA o).all fun t => r.all fun k => if d.dst k == some t then k == i || d.A i k || d.A k i else true
    | none => false) &&
  (r.all fun i => r.all fun j => i == j || (match d.dst i with | some t => d.dst j != some t | none => true)) &&
  (r.all fun i => r.all fun j => !d.heavy i || !d.heavy j || i == j || d.A i j || d.A j i) &&
  (r.all fun i => if d.cl.getD i 2 == 3 then r.all fun j => !d.heavy j || !decide (d.p j < d.p i) || d.A i j else true)

section
variable (P : Program) (md : FuncId → Bool)
def drawDIx (lt : Bool) (n : Nat) (ops : Array Oper) : DI :=
  let c := cOps P n ops
  let cl := (ops.toList.zip c).map fun (o, a) => clsO lt md o a.op
  let es := ops.toList.map edgesOf
  let k := ops.size
  let anc := es.map fun e => ancMask es (k * k + k) e 0
  let L := pickOrder es cl k (List.range k) 0
  let pos := (List.range k).map fun i => L.findIdx (· == i)
  { n := k, ops, c, cl, es, anc, L, pos, lt }
/-- literals act in the text's order, unless that leaves an order open -/
def drawDI (n : Nat) (ops : Array Oper) : DI :=
  let d := drawDIx P md false n ops
  if d.ok then d else drawDIx P md true n ops
def drawList (d : DI) : List AOper := d.L.map fun i => { d.c.getD i default with un := d.un i }

def cCode (n : Nat) : Code → ACode
  | .skip => .skip
  | .region _ ops false => .ops (cOps P n ops)
  | .region _ ops true =>
    let d := drawDI P md n ops
    if d.ok then .draw (drawList d) else .bad
  | .seq a b => .seq (cCode n a) (cCode n b)
  | .cond c a b => match cArg c with
    | some c => .cond c (cCode n a) (cCode n b)
    | none => .bad
  | .block id b => .block id (cCode n b)
  | .loop b => .loop (cCode n b)
  | .rangeFunc f ps a b => match cArg f with
    | some x => if ps.toList.all (fun p => decide (p < n)) then .rfunc x ps.toList a b n else .bad
    | none => .bad
  | .exit id => .exit id
  | .scope b => .scope (cCode n b)
  | .label l => .label l
  | .goto l => .goto l
  | .ret => .ret
  | .refuse _ => .bad

/-- code that may be a round: it neither draws nor defers nor loops over a function -/
def plainC : Code → Bool
  | .region _ ops draw => !draw && ops.toList.all (fun o => match o.op with | .defer _ => false | _ => true)
  | .seq a b => plainC a && plainC b
  | .cond _ a b => plainC a && plainC b
  | .block _ b => plainC b
  | .loop b => plainC b
  | .scope b => plainC b
  | .rangeFunc .. => false
  | _ => true
def cRound (n : Nat) (c : Code) : ACode := if plainC c then cCode P md n c else .bad
def cRes : ResultVar → Option ARes
  | .tmp t => some (.tmp t)
  | .cell a t => match aggT P t, szOf P t with
    | some true, some n => some (.cellN a n)
    | some false, some _ => some (.cell1 a)
    | _, _ => none

/-- a function as the abstract machine holds it -/
def cFn (f : Func) (mode : Nat) : Option AFn :=
  match f.body, f.results.toList.mapM (cRes P) with
  | some c, some r => if f.name == "runtime.NumGoroutine" then none else some { body := cCode P md f.ntmps c, res := r, mode }
  | _, _ => none
end
end Go.Ab

/- Calls, results, deferred calls: what the abstract machine says of them holds of the model. -/
namespace Go.Ab

theorem isUnd_iff {v : Value} : isUnd v = true ↔ v = .tuple #[] := by
  unfold isUnd
  split
  · simp
  · rename_i h
    simp only [Bool.false_eq_true, false_iff]
    intro e; exact h e

/-- temporaries -/


theorem TRel.congr {m : Mu} {t t' : List Value} {a : Array Value} (h : TRel m t a) (ht : ∀ i, tg t' i = tg t i) : TRel m t' a := fun i => by rw [ht i]; exact h i

theorem tg_putD (t : List Value) (d : Option Nat) (v : Value) (j : Nat) : tg (putD t d v) j = if d = some j then v else tg t j := by
  cases d with
  | none => simp [putD]
  | some d =>
    simp only [putD, tg_ts, Option.some.injEq]
    by_cases h : j = d
    · subst h; simp
    · rw [if_neg h, if_neg (fun e => h e.symm)]

theorem TRel.put {m : Mu} {t : List Value} {a : Act} (h : TRel m t a.tmps) {d : Option Nat} {v v' : Value} (hd : ∀ x, d = some x → x < a.tmps.size)
    (hv : VRel m v v') (hu : d.isSome = true → v = .tuple #[] → v' = undef) : TRel m (putD t d v) (a.put d v').tmps := by
  intro i
  rw [tg_putD]
  cases d with
  | none => simpa [Act.put] using h i
  | some x =>
    have hx := hd x rfl
    simp only [Act.put, Array.getD_eq_getD_getElem?, Array.getElem?_setIfInBounds, Option.some.injEq]
    by_cases hi : x = i
    · subst hi
      simp only [if_true, hx, Option.getD_some]
      exact ⟨hv, hu rfl⟩
    · simp only [hi, if_false]
      simpa [Array.getD_eq_getD_getElem?] using h i

theorem put_size (a : Act) (d : Option Nat) (v : Value) : (a.put d v).tmps.size = a.tmps.size := by cases d <;> simp [Act.put]
theorem put_defers (a : Act) (d : Option Nat) (v : Value) : (a.put d v).defers = a.defers := by cases d <;> simp [Act.put]

theorem TRel.ev {m : Mu} {t : List Value} {a : Act} (h : TRel m t a.tmps) : EvOk m t a.eval := by
  intro x b hb
  cases x with
  | tmp i => cases hb; exact (h i).1
  | const v =>
    simp only [cArg] at hb
    split at hb
    · rename_i hc; cases hb; exact constOk_self v hc
    · cases hb
  | global g => cases hb; exact .ptrOld _ rfl
  | func f =>
    simp only [cArg] at hb
    split at hb
    · rename_i hlt; cases hb; exact .func _ _ _ _ _ hlt rfl (fun i a b h => by simp at h) rfl (fun i a b h => by simp at h)
    · cases hb

theorem cArgs_rel {m : Mu} {t : List Value} {ρ : Operand → Value} (hρ : EvOk m t ρ) : ∀ {l : List Operand} {r : List AArg}, l.mapM cArg = some r → VRelL m (r.map (·.ev t)) (l.map ρ)
  | [], r, h => by simp at h; subst h; exact VRelL.nil m
  | x :: l, r, h => by
    simp only [List.mapM_cons] at h
    cases h1 : cArg x with
    | none => rw [h1] at h; cases h
    | some a =>
      cases h2 : l.mapM cArg with
      | none => rw [h1, h2] at h; cases h
      | some r' =>
        rw [h1, h2] at h
        cases h
        exact VRelL.cons (hρ _ _ h1) (cArgs_rel hρ h2)

/-- what a call or an operation comes to -/
def RR (m : Mu) (w0 : World) (h : AHeap) (v : Value) (h' : AHeap) (u : Prop) (v' : Value) (w' : World) : Prop :=
  ∃ m', HRel m' w0 h' w' ∧ Post m h m' h' ∧ VRel m' v v' ∧ (u → v = .tuple #[] → v' = undef)

def retOnly (R : Value → World → Prop) : Ending → World → Prop
  | .returned v, w => R v w
  | _, _ => False
def CallOk (P : Program) (f : FuncId) (args : Array Value) (w : World) (R : Value → World → Prop) : Prop :=
  Calls P f args w (retOnly R) ∧ ∀ u, CallsD P f args u w fun e u' w' => u' = u ∧ retOnly R e w'

def Upon (P : Program) (R : Value → World → Prop) : Result Next → Prop
  | .ok (.value v') w' => R v' w'
  | .ok .skip w' => R undef w'
  | .ok (.enter f args) w' => CallOk P f args w' R
  | _ => False

/-- a frame comes to its end -/
def Fin (P : Program) (F : Func) (b : Frame) (cs : List Frame) (M : Machine) (R : Value → World → Prop) : Prop :=
  ∃ v w' fr, R v w' ∧ Steps P M (lone fr cs w') ∧ fr.mode = .returning ∧ fr.defers = [] ∧ fr.fn = b.fn ∧ fr.kind = b.kind ∧ (results F fr.tmps).run P w' = .ok v w'

theorem Fin.of_steps {P : Program} {F : Func} {b : Frame} {cs : List Frame} {M M' : Machine} {R : Value → World → Prop} (h : Steps P M M') (h' : Fin P F b cs M' R) :
    Fin P F b cs M R := by
  obtain ⟨v, w', fr, hR, hs, rest⟩ := h'
  exact ⟨v, w', fr, hR, h.trans hs, rest⟩

theorem callOk_of {P : Program} {f : FuncId} {F : Func} {c : Code} {args : Array Value} {w : World} {R : Value → World → Prop}
    (hf : P.funcs[f]? = some F) (hb : F.body = some c)
    (h : ∀ (b : Frame) cs, b.fn = f → Fin P F b cs (lone (b.at { tmps := args ++ Array.replicate (F.ntmps - args.size) undef, defers := [] } [.code c]) cs w) R) :
    CallOk P f args w R := by
  constructor
  · intro cs
    let b : Frame := { (default : Frame) with fn := f, kind := .normal }
    have henter : Frame.enter P f args .normal =
        b.at { tmps := args ++ Array.replicate (F.ntmps - args.size) undef, defers := [] } [.code c] := by
      simp [Frame.enter, Frame.at, hf, hb, b]
    obtain ⟨v, w', fr, hR, hs, h1, h2, h3, h4, h5⟩ := h b cs rfl
    rw [← henter] at hs
    exact ⟨.returned v, w', fr, hR, hs, h3, h1, h2, h4, F, h3 ▸ hf, h5⟩
  · intro u c0 cs hu
    let b : Frame := { (default : Frame) with fn := f, kind := .deferred }
    have henter : Frame.enter P f args .deferred =
        b.at { tmps := args ++ Array.replicate (F.ntmps - args.size) undef, defers := [] } [.code c] := by
      simp [Frame.enter, Frame.at, hf, hb, b]
    obtain ⟨v, w', fr, hR, hs, h1, h2, h3, h4, h5⟩ := h b (c0 :: cs) rfl
    rw [← henter] at hs
    have hc : ({ c0 with mode := u } : Frame) = c0 := by subst hu; rfl
    exact ⟨.returned v, u, w', fr, ⟨rfl, hR⟩, (by rw [hc]; exact hs), h4, h1, h2, F, h3 ▸ hf, h5⟩

theorem Calls.weaken {P : Program} {f : FuncId} {args : Array Value} {w : World} {R R' : Value → World → Prop} (h : CallOk P f args w R) (hr : ∀ v w', R v w' → R' v w') :
    CallOk P f args w R' :=
  ⟨h.1.mono fun e w' he => by cases e <;> first | exact hr _ _ he | exact he,
    fun u => (h.2 u).mono fun e u' w' he => ⟨he.1, by have := he.2; cases e <;> first | exact hr _ _ this | exact this⟩⟩

theorem Upon.mono {P : Program} {R R' : Value → World → Prop} (hr : ∀ v w', R v w' → R' v w') {r : Result Next} (h : Upon P R r) : Upon P R' r := by
  cases r with
  | ok n w' => cases n <;> first | exact hr _ _ h | exact Calls.weaken h hr | exact h
  | halt x w' => exact h

theorem OpRes.upon {P : Program} {m : Mu} {w0 : World} {h h' : AHeap} {v : Value} {r : Result Next} (H : OpRes m w0 h v h' r) : Upon P (RR m w0 h v h' False) r := by
  obtain ⟨w', m', h1, h2, h3⟩ := H
  rcases h3 with ⟨v', rfl, hv⟩ | ⟨rfl, rfl⟩
  · exact ⟨m', h1, h2, hv, fun h => h.elim⟩
  · exact ⟨m', h1, h2, .any _, fun h => h.elim⟩

/-- what an extern must do -/
def ExtOk (P : Program) (w0 : World) (C : Ctx) (f : FuncId) (e : Ext) : Prop :=
  ∀ m h w args args' v h', VRelL m args args' → HRel m w0 h w → extExec C e args h = some (v, h') → Upon P (RR m w0 h v h' True) ((callFunc f ⟨args'⟩).run P w)

structure Env (P : Program) (md : FuncId → Bool) (C : Ctx) (w0 : World) : Prop where
  cc : ∀ n c, C.cc n c = cRound P md n c
  free : C.T fYield = none ∧ C.T fTake = none
  mlim : ∀ ty name f, C.meth ty name = some f → f < fYield
  hold : OldOk C.old w0
  lies : LiesOk P C
  mix : P.follows .mixedOrders = true
  fn : ∀ f fn, C.T f = some (.fn fn) → ∃ F, P.funcs[f]? = some F ∧ cFn P md F fn.mode = some fn
  ext : ∀ f e, C.T f = some (.ext e) → ∀ w1, OldOk C.old w1 → ExtOk P w1 C f e
  meth : ∀ ty name f, C.meth ty name = some f → ∀ v w, (method (P.types.size + Made.depth) ty v name).run P w = .ok (f, v) w
  pure : ∀ f, md f = true → ∃ fn, C.T f = some (.fn fn) ∧ 2 ≤ fn.mode

theorem cFn_spec {P : Program} {md : FuncId → Bool} {F : Func} {k : Nat} {fn : AFn} (h : cFn P md F k = some fn) :
    ∃ c r, F.body = some c ∧ F.results.toList.mapM (cRes P) = some r ∧ F.name ≠ "runtime.NumGoroutine" ∧ fn = { body := cCode P md F.ntmps c, res := r, mode := k } := by
  unfold cFn at h
  split at h
  · rename_i c r h1 h2
    split at h
    · cases h
    · rename_i h3
      cases h
      exact ⟨c, r, h1, h2, by simpa using h3, rfl⟩
  · cases h

theorem run_callFunc {P : Program} {f : FuncId} {F : Func} {c : Code} {args : Array Value} {w : World} (hf : P.funcs[f]? = some F) (hb : F.body = some c)
    (hn : F.name ≠ "runtime.NumGoroutine") : (callFunc f args).run P w = .ok (.enter f args) w := by
  simp [callFunc, hf, hb, hn]

/- back to the memory before -/

theorem VRel.back {m m' : Mu} (hm : m.le m') {v v0 : Value} (h0 : VRel m v v0) : ∀ {x}, VRel m' v x → VRel m v x := by
  induction h0 with
  | any v => intro x _; exact .any x
  | bool b => intro x h; cases h; exact .bool b
  | int k n => intro x h; cases h; exact .int k n
  | float k n => intro x h; cases h; exact .float k n
  | string s => intro x h; cases h; exact .string s
  | nilFunc => intro x h; cases h; exact .nilFunc
  | nilIface => intro x h; cases h; exact .nilIface
  | ptrNil => intro x h; cases h; exact .ptrNil
  | ptrOld a ha => intro x h; cases h with
    | ptrOld _ h1 => exact .ptrOld a ha
    | ptrNew off h1 => cases ha
  | ptrNew off h1 => intro x h; cases h with
    | ptrOld _ h2 => cases h2
    | ptrNew _ h2 => rw [hm _ _ _ h1] at h2; cases h2; exact .ptrNew off h1
  | slNil => intro x h; cases h; exact .slNil
  | slOld a l c ha => intro x h; cases h <;> first | exact .slOld a l c ha | cases ha
  | slPlain off l c h1 => intro x h; cases h with
    | slOld _ _ _ h2 => cases h2
    | slPlain _ _ _ h2 => rw [hm _ _ _ h1] at h2; cases h2; exact .slPlain off l c h1
    | slEmpty b off a => exact .slEmpty _ _ _
  | slEmpty b off a => intro x h; cases h with
    | slOld _ _ _ h2 => cases h2
    | slPlain _ _ _ h2 => exact .slEmpty _ _ _
    | slEmpty b off a => exact .slEmpty _ _ _
  | slExact off l c h1 hc => intro x h; cases h with
    | slOld _ _ _ h2 => cases h2
    | slExact _ _ _ h2 _ => rw [hm _ _ _ h1] at h2; cases h2; exact .slExact off l c h1 hc
    | slRest _ _ _ h2 h3 h4 => exact absurd rfl hc
    | slEnd off a h2 h3 => exact absurd rfl hc
  | slRest off l c h1 h3 h4 => intro x h; cases h with
    | slOld _ _ _ h2 => cases h2
    | slExact _ _ _ h2 hc => exact absurd rfl hc
    | slRest _ _ _ h2 h5 h6 => rw [hm _ _ _ h1] at h2; cases h2; exact .slRest off _ _ h1 h5 h6
    | slEnd off a h2 h5 => rw [hm _ _ _ h1] at h2; cases h2; exact .slEnd off a h1 h5
  | slEnd off a h1 h3 => intro x h; cases h with
    | slOld _ _ _ h2 => cases h2
    | slExact _ _ _ h2 hc => exact absurd rfl hc
    | slRest _ _ _ h2 h5 h6 => rw [hm _ _ _ h1] at h2; cases h2; exact .slRest off _ _ h1 h5 h6
    | slEnd off a h2 h5 => exact .slEnd off _ h1 h3
  | mapNil => intro x h; cases h; exact .mapNil
  | mapNew h1 => intro x h; cases h with
    | mapNew h2 => rw [hm _ _ _ h1] at h2; cases h2; exact .mapNew h1
  | yield h1 => intro x h; cases h with
    | yield h2 => rw [hm _ _ _ h1] at h2; cases h2; exact .yield h1
    | func _ _ _ _ _ h0 => exact absurd h0 (by decide)
  | func f x y u v h0 hl hx hl' hy ihx ihy =>
    intro z h; cases h with
    | yield => exact absurd h0 (by decide)
    | func _ _ _ u' v' k0 k1 k2 k3 k4 =>
      refine .func _ _ _ _ _ h0 k1 (fun i a b ha hb => ?_) k3 (fun i a b ha hb => ?_)
      · have hi : i < u.length := by
          rcases Nat.lt_or_ge i x.length with h | h
          · omega
          · rw [List.getElem?_eq_none h] at ha; cases ha
        exact ihx i a _ ha (List.getElem?_eq_getElem hi) (k2 i a b ha hb)
      · have hi : i < v.length := by
          rcases Nat.lt_or_ge i y.length with h | h
          · omega
          · rw [List.getElem?_eq_none h] at ha; cases ha
        exact ihy i a _ ha (List.getElem?_eq_getElem hi) (k4 i a b ha hb)
  | iface t v w hv ih => intro x h; cases h with
    | iface _ _ w' h2 => exact .iface _ _ _ (ih h2)
  | agg x u hl hx ih =>
    intro z h; cases h with
    | agg _ u' k1 k2 =>
      refine .agg _ _ k1 (fun i a b ha hb => ?_)
      have hi : i < u.length := by
        rcases Nat.lt_or_ge i x.length with h | h
        · omega
        · rw [List.getElem?_eq_none h] at ha; cases ha
      exact ih i a _ ha (List.getElem?_eq_getElem hi) (k2 i a b ha hb)
  | tuple x u hl hx ih =>
    intro z h; cases h with
    | any v => exact .any _
    | tuple _ u' k1 k2 =>
      refine .tuple _ _ k1 (fun i a b ha hb => ?_)
      have hi : i < u.length := by
        rcases Nat.lt_or_ge i x.length with h | h
        · omega
        · rw [List.getElem?_eq_none h] at ha; cases ha
      exact ih i a _ ha (List.getElem?_eq_getElem hi) (k2 i a b ha hb)

theorem VRelL.back {m m' : Mu} (hm : m.le m') {x u u' : List Value} (h0 : VRelL m x u) (h : VRelL m' x u') : VRelL m x u' := by
  refine ⟨h.1, fun i a b ha hb => ?_⟩
  obtain ⟨c, hc, hr⟩ := h0.get ha
  exact hr.back hm (h.2 i a b ha hb)

theorem BRel.back {m m' : Mu} (hm : m.le m') {t sz k : Nat} {o o' : Option Obj} {b : Option ABlock} (h0 : BRel m t sz k o b) (h : BRel m' t sz k o' b) : BRel m t sz k o' b := by
  cases b with
  | none => exact h0.elim
  | some b =>
    cases b with
    | cells c fz =>
      obtain ⟨h1, cc, e, lo, hi, h2, h3, h4, h5⟩ := h
      obtain ⟨_, cc', _, _, _, _, _, k4, _⟩ := h0
      exact ⟨h1, cc, e, lo, hi, h2, h3, k4.back hm h4, h5⟩
    | grow c last fz k' =>
      obtain ⟨h1, h2, h3, h4, h5, cc, e, lo, hi, h6, h7, h8, h9, h10⟩ := h
      obtain ⟨_, _, _, _, _, cc', _, _, _, _, _, _, k9, _⟩ := h0
      exact ⟨h1, h2, h3, h4, h5, cc, e, lo, hi, h6, h7, h8, fun hl => (k9 hl).back hm (h9 hl), h10⟩
    | map es clock =>
      obtain ⟨h1, es', h2, h3⟩ := h
      obtain ⟨_, es0, _, k3⟩ := h0
      refine ⟨h1, es', h2, h3.1, fun i a b ha hb => ?_⟩
      obtain ⟨q1, q2, q3⟩ := h3.2 i a b ha hb
      have hi : i < es0.length := by
        rcases Nat.lt_or_ge i es.length with h | h
        · rw [← k3.1]; exact h
        · rw [List.getElem?_eq_none h] at ha; cases ha
      obtain ⟨r1, r2, _⟩ := k3.2 i a _ ha (List.getElem?_eq_getElem hi)
      exact ⟨r1.back hm q1, r2.back hm q2, q3⟩
    | siter s p => exact h
    | loop ps A B nt snap st =>
      obtain ⟨h1, L, h2, h3, h4, h5, h6, h7, h8, h9⟩ := h
      obtain ⟨_, L0, _, _, _, _, _, _, k8, _⟩ := h0
      exact ⟨h1, L, h2, h3, h4, h5, h6, h7, fun i => ⟨(k8 i).1.back hm (h8 i).1, (h8 i).2⟩, h9⟩
    | dfr tk => exact h
    | hole => exact h0.elim

/-- a pure call's end: the memory that counts stands as before -/
theorem HRel.back {m m' : Mu} {w0 w w' : World} {h h' : AHeap} (H : HRel m w0 h w) (H' : HRel m' w0 h' w') (hp : Post m { h with lo := h.bs.length } m' h') : HRel m w0 h w' := by
  refine ⟨H'.base, H'.old, H'.os, H'.output, H'.tape, H.lo, fun b t cb sz k hm => ?_, H.inj⟩
  obtain ⟨hl, _⟩ := H.lt hm
  obtain ⟨p1, p2⟩ := hp.prot b hl
  obtain ⟨h1, h2⟩ := H.blk _ _ _ _ _ hm
  obtain ⟨k1, k2⟩ := H'.blk b t cb sz k (by rw [p2 t]; exact hm)
  simp only at p1
  rw [p1] at k2
  exact ⟨h1, h2.back hp.le k2⟩

theorem flat1_rel {m m' : Mu} {v x : Value} (hf : flat1 v = true) (h : VRel m' v x) : VRel m v x := by
  cases h with
  | ptrOld a ha => exact .ptrOld a ha
  | slOld a l c ha => exact .slOld a l c ha
  | slEmpty b off a => exact .slEmpty _ _ _
  | any => exact .any _
  | bool => exact .bool _
  | int => exact .int _ _
  | float => exact .float _ _
  | string => exact .string _
  | nilFunc => exact .nilFunc
  | nilIface => exact .nilIface
  | ptrNil => exact .ptrNil
  | slNil => exact .slNil
  | mapNil => exact .mapNil
  | _ => simp [flat1] at hf

theorem flat2_rel {m m' : Mu} {v x : Value} (hf : flat2 v = true) (h : VRel m' v x) : VRel m v x := by
  cases v with
  | agg l =>
    obtain ⟨l⟩ := l
    simp only [flat2, List.all_eq_true] at hf
    cases h with
    | agg _ u h1 h2 => exact .agg _ _ h1 fun i a b ha hb => flat1_rel (hf a (List.mem_of_getElem? ha)) (h2 i a b ha hb)
  | _ => exact flat1_rel hf h
theorem flat_rel {m m' : Mu} {v x : Value} (hf : flat v = true) (h : VRel m' v x) : VRel m v x := by
  cases v with
  | tuple l =>
    obtain ⟨l⟩ := l
    simp only [flat, List.all_eq_true] at hf
    cases h with
    | any => exact .any _
    | tuple _ u h1 h2 => exact .tuple _ _ h1 fun i a b ha hb => flat2_rel (hf a (List.mem_of_getElem? ha)) (h2 i a b ha hb)
  | _ => exact flat2_rel hf h

/-- a call that begins with no memory of its own: the world that it meets is its base -/
theorem Env.rebase {P : Program} {md : FuncId → Bool} {C : Ctx} {w0 w : World} (E : Env P md C w0) {m : Mu} {h : AHeap} (H : HRel m w0 h w) : Env P md C w :=
  ⟨E.cc, E.free, E.mlim, fun b o v hv => by obtain ⟨x, g1, g2⟩ := E.hold b o v hv; exact ⟨x, cell_old H g1, g2⟩, E.lies, E.mix, E.fn, E.ext, E.meth, E.pure⟩

theorem HRel.bare (w : World) : HRel (fun _ _ => none) w { bs := [], lo := 0 } w :=
  ⟨Nat.le_refl _, fun _ _ => rfl, rfl, rfl, rfl, Nat.le_refl _, fun _ _ _ _ _ h => (by cases h), fun _ _ _ _ _ _ _ _ _ h _ => (by cases h)⟩

theorem HRel.over {m m' : Mu} {w0 w w' : World} {h h' : AHeap} (H : HRel m w0 h w) (H' : HRel m' w h' w') : HRel m w0 h w' := by
  refine ⟨Nat.le_trans H.base H'.base, fun i hi => ?_, H'.os.trans H.os, H'.output.trans H.output, H'.tape.trans H.tape, H.lo, fun b t cb sz k hm => ?_, H.inj⟩
  · rw [H'.old i (Nat.lt_of_lt_of_le hi H.base)]; exact H.old i hi
  · obtain ⟨_, l2⟩ := H.lt hm
    rw [H'.old cb l2]
    exact H.blk _ _ _ _ _ hm

theorem flatL_rel {m m' : Mu} {x u : List Value} (hf : x.all flat = true) (h : VRelL m' x u) : VRelL m x u :=
  ⟨h.1, fun i a b ha hb => flat_rel ((List.all_eq_true.1 hf) a (List.mem_of_getElem? ha)) (h.2 i a b ha hb)⟩
end Go.Ab

/- Calls and deferred calls, from what is known of the code that runs. -/
namespace Go.Ab

inductive IRel (P : Program) (md : FuncId → Bool) (n : Nat) : AItem → Item → Prop
  | code (c : Code) : IRel P md n (.code (cCode P md n c)) (.code c)
  | ops (ops : Array Oper) (is : List Nat) (l : List AOper) : l.length = is.length →
      (∀ (j : Nat) ao i, l[j]? = some ao → is[j]? = some i → ∃ o, ops[i]? = some o ∧ ao = cOper P ops n o) → IRel P md n (.ops l) (.inRegion ops is)
  | inBlock (id : Nat) : IRel P md n (.inBlock id) (.inBlock id)
  | inLoop (c : Code) : IRel P md n (.inLoop (cCode P md n c)) (.inLoop c)
  | inScope (c : Code) : IRel P md n (.inScope (cCode P md n c)) (.inScope c)
inductive KRel (P : Program) (md : FuncId → Bool) (n : Nat) : List AItem → List Item → Prop
  | nil : KRel P md n [] []
  | cons {x y k K} : IRel P md n x y → KRel P md n k K → KRel P md n (x :: k) (y :: K)

def DRel (C : Ctx) (m : Mu) (d : ADefer) (D : Deferred) : Prop :=
  (∃ fn cap as, C.T d.f = some (.fn fn) ∧ D = { target := .fn (.func d.f) ⟨cap⟩, args := ⟨as⟩ } ∧ VRelL m d.args (as ++ cap) ∧ d.args.any isUnd = false) ∨
  (d.f = fTake ∧ ∃ b r sz k, d.args = [.pointer (some ⟨b, 0, some 0⟩)] ∧ m b 0 = some (r, sz, k) ∧ D = { target := .collected r, args := #[] })
inductive DRelL (C : Ctx) (m : Mu) : List ADefer → List Deferred → Prop
  | nil : DRelL C m [] []
  | cons {x y k K} : DRel C m x y → DRelL C m k K → DRelL C m (x :: k) (y :: K)
theorem DRel.mono {C : Ctx} {m m' : Mu} (hm : m.le m') {d : ADefer} {D : Deferred} (h : DRel C m d D) : DRel C m' d D := by
  rcases h with ⟨fn, cap, as, h1, h2, h3, h4⟩ | ⟨h1, b, r, sz, k, h2, h3, h4⟩
  · exact .inl ⟨fn, cap, as, h1, h2, h3.mono hm, h4⟩
  · exact .inr ⟨h1, b, r, sz, k, h2, hm _ _ _ h3, h4⟩
theorem DRelL.mono {C : Ctx} {m m' : Mu} (hm : m.le m') {d : List ADefer} {D : List Deferred} (h : DRelL C m d D) : DRelL C m' d D := by
  induction h with
  | nil => exact .nil
  | cons h _ ih => exact .cons (h.mono hm) ih

/-- what is to be shown of a runner -/
def SOk (P : Program) (md : FuncId → Bool) (C : Ctx) (w0 : World) (go : K) : Prop :=
  ∀ rs items t ds h v h', go rs items t ds h = some (v, h') → ∀ (F : Func) (b : Frame) (K : List Item) (a : Act) (cs : List Frame) (w : World) (m : Mu),
    F.results.toList.mapM (cRes P) = some rs → F.ntmps ≤ a.tmps.size → KRel P md F.ntmps items K → TRel m t a.tmps → DRelL C m ds a.defers → HRel m w0 h w →
    Fin P F b cs (lone (b.at a K) cs w) (RR m w0 h v h' True)

/-- what runs no round -/
def NoRd (go : K) : Prop := ∀ rs items t ds h, inRoundA items = true → go rs items t ds h = none
theorem noRd_no (go : K) : NoRd (noRd go) := fun rs items t ds h e => by unfold noRd; rw [if_pos e]
theorem noRd_ok {P : Program} {md : FuncId → Bool} {C : Ctx} {w0 : World} {go : K} (S : SOk P md C w0 go) : SOk P md C w0 (noRd go) := fun rs items t ds h v h' e => by
  unfold noRd at e
  split at e
  · cases e
  · exact S rs items t ds h v h' e
/-- how a round is left -/
def JumpOf (v : Value) (jump : Option Code) : Prop :=
  (v = .int .i64 0 ∧ jump = none) ∨ (v = .tuple #[] ∧ jump = some .ret) ∨ ∃ n : Nat, v = .int .i64 (.ofNat (n + 1)) ∧ jump = some (.exit n)
def noDeferOp (o : Oper) : Bool := match o.op with
  | .defer _ => false
  | _ => true
def plainI : Item → Prop
  | .code c | .inLoop c | .inScope c => plainC c = true
  | .inRegion ops _ => ops.toList.all noDeferOp = true
  | _ => True
inductive KRelR (P : Program) (md : FuncId → Bool) (n bl : Nat) : List AItem → List Item → Prop
  | last : KRelR P md n bl [.endRound] []
  | begin {k K} : KRelR P md n bl k K → KRelR P md n bl (.beginRound bl :: k) (.beginRound :: K)
  | cons {x y k K} : IRel P md n x y → plainI y → KRelR P md n bl k K → KRelR P md n bl (x :: k) (y :: K)
/-- a round comes to its end -/
def FinR (P : Program) (w0 : World) (l : Nat) (c : Frame) (cs : List Frame) (M : Machine) (m : Mu) (h : AHeap) (v : Value) (h' : AHeap) : Prop :=
  ∃ w1 m1 jump, HRel m1 w0 h' w1 ∧ Post m h m1 h' ∧ JumpOf v jump ∧ ∀ u w2, (Instr.endRound l jump).run P w1 = .ok u w2 → Steps P M (lone (c.finish u) cs w2)
def SOkR (P : Program) (md : FuncId → Bool) (C : Ctx) (w0 : World) (go : K) : Prop :=
  ∀ items t h v h', go [] items t [] h = some (v, h') → ∀ (n bl l sz kk : Nat) (b : Frame) (K : List Item) (a : Act) (c : Frame) (cs : List Frame) (w : World) (m : Mu),
    b.roundOf = some l → b.kind = .normal → n ≤ a.tmps.size → KRelR P md n bl items K → a.defers = [] → TRel m t a.tmps → HRel m w0 h w → m bl 0 = some (l, sz, kk) →
    FinR P w0 l c cs (lone (b.atR a K) (c :: cs) w) m h v h'
/-- a round, called -/
def RoundOk (P : Program) (l : Nat) (f : FuncId) (tmps : Array Value) (assign body : Code) (w : World) (R : Value → World → Prop) : Prop :=
  ∀ c cs, ∃ u w', R u w' ∧ Steps P (lone (Frame.round l f tmps assign body .normal) (c :: cs) w) (lone (c.finish u) cs w')
/-- what a call comes to, rounds too -/
def UponR (P : Program) (R : Value → World → Prop) (r : Result Next) : Prop :=
  Upon P R r ∨ ∃ l f tmps assign body w', r = .ok (.round l f tmps assign body) w' ∧ RoundOk P l f tmps assign body w' R
theorem Fin.mono {P : Program} {F : Func} {b : Frame} {cs : List Frame} {M : Machine} {R R' : Value → World → Prop} (h : Fin P F b cs M R) (hr : ∀ v w, R v w → R' v w) : Fin P F b cs M R' := by
  obtain ⟨v, w', fr, hR, rest⟩ := h
  exact ⟨v, w', fr, hr _ _ hR, rest⟩

theorem RR.trans {m m1 : Mu} {w0 : World} {h h1 h2 : AHeap} {v v' : Value} {u : Prop} {w' : World} (hp : Post m h m1 h1) (r : RR m1 w0 h1 v h2 u v' w') : RR m w0 h v h2 u v' w' := by
  obtain ⟨m2, a, b, c, d⟩ := r
  exact ⟨m2, a, hp.trans b, c, d⟩

theorem tg_eq (l : List Value) (i : Nat) : tg l i = (l[i]?).getD (.tuple #[]) := by
  induction l generalizing i with
  | nil => simp [tg_nil]
  | cons a l ih => cases i <;> simp [tg, ih]

theorem TRel.args {m : Mu} {args args' : List Value} (hr : VRelL m args args') (hu : args.any isUnd = false) (n : Nat) :
    TRel m args ((⟨args'⟩ : Array Value) ++ Array.replicate n undef) := by
  intro i
  rw [tg_eq]
  cases hi : args[i]? with
  | none =>
    have hl : args'.length ≤ i := by
      rcases Nat.lt_or_ge i args'.length with h | h
      · rw [← hr.1] at h; rw [List.getElem?_eq_getElem h] at hi; cases hi
      · exact h
    have : ((⟨args'⟩ : Array Value) ++ Array.replicate n undef).getD i undef = undef := by
      rw [Array.getD_eq_getD_getElem?, Array.getElem?_append_right (by simpa using hl)]
      simp only [Array.getElem?_replicate]
      split <;> rfl
    rw [this]
    exact ⟨.any _, fun _ => rfl⟩
  | some v =>
    obtain ⟨v', hv', hrel⟩ := hr.get hi
    have hl : i < args'.length := by
      rcases Nat.lt_or_ge i args'.length with h | h
      · exact h
      · rw [List.getElem?_eq_none h] at hv'; cases hv'
    have : ((⟨args'⟩ : Array Value) ++ Array.replicate n undef).getD i undef = v' := by
      rw [Array.getD_eq_getD_getElem?, Array.getElem?_append_left (by simpa using hl)]
      simp [hv']
    rw [this]
    refine ⟨hrel, fun e => ?_⟩
    simp only [Option.getD_some] at e
    have hm := List.mem_of_getElem? hi
    rw [List.any_eq_false] at hu
    exact absurd (isUnd_iff.2 e) (by simpa using hu v hm)

section
variable {P : Program} {md : FuncId → Bool} {C : Ctx} {w0 : World} {go : K}

theorem lt_ne {f : FuncId} (hf : f < fYield) : f ≠ fYield ∧ f ≠ fTake := ⟨fun h => by rw [h] at hf; exact absurd hf (by decide), fun h => by rw [h] at hf; exact absurd hf (by decide)⟩
theorem callFunc_sim (E : Env P md C w0) (S : ∀ w1, Env P md C w1 → SOk P md C w1 go) {f : FuncId} {args args' : List Value} {h h' : AHeap} {v : Value} {m : Mu} {w : World}
    (hf : f ≠ fYield ∧ f ≠ fTake) (e : doCall C go f args h = some (v, h')) (hu : args.any isUnd = false) (hr : VRelL m args args') (H : HRel m w0 h w) :
    Upon P (RR m w0 h v h' True) ((callFunc f ⟨args'⟩).run P w) := by
  unfold doCall at e
  cases hT : C.T f with
  | none =>
    rw [hT] at e
    simp only at e
    rw [if_neg hf.1, if_neg hf.2] at e
    cases e
  | some af =>
    rw [hT] at e
    cases af with
    | ext x => exact E.ext f x hT w0 E.hold m h w args args' v h' hr H e
    | fn fn =>
      clear hf
      obtain ⟨F, hF, hc⟩ := E.fn f fn hT
      obtain ⟨c, r, hb, hres, hname, hfn⟩ := cFn_spec hc
      rw [run_callFunc hF hb hname]
      have hbody : fn.body = cCode P md F.ntmps c := by rw [hfn]
      have hrs : fn.res = r := by rw [hfn]
      have hsz : F.ntmps ≤ ((⟨args'⟩ : Array Value) ++ Array.replicate (F.ntmps - (⟨args'⟩ : Array Value).size) undef).size := by simp; omega
      have key : ∀ (h0 : AHeap) v1 h1, go fn.res [.code fn.body] args [] h0 = some (v1, h1) → HRel m w0 h0 w → CallOk P f ⟨args'⟩ w (RR m w0 h0 v1 h1 True) := by
        intro h0 v1 h1 e1 H1
        refine callOk_of hF hb fun b cs hbf => ?_
        rw [hbody, hrs] at e1
        exact S w0 E _ _ _ _ _ _ _ e1 F b _ _ cs w m hres hsz (.cons (.code c) .nil) (TRel.args hr hu _) .nil H1
      simp only [Upon]
      simp only at e
      split at e
      · exact key _ _ _ e H
      · split at e
        · rename_i v1 h1 e1
          cases e
          refine Calls.weaken (key _ _ _ e1 (H.setLo (Nat.le_refl _))) fun v' w' hr' => ?_
          obtain ⟨m', a1, a2, a3, a4⟩ := hr'
          have hlen : h.lo ≤ h1.bs.length := Nat.le_trans H.lo a2.len
          refine ⟨m', a1.setLo hlen, ⟨a2.le, a2.len, rfl, fun b hb => a2.prot b (Nat.lt_of_lt_of_le hb H.lo), a2.unm⟩, a3, a4⟩
        · cases e
      · split at e
        · rename_i v1 h1 e1
          split at e
          · rename_i hfl
            cases e
            refine Calls.weaken (key _ _ _ e1 (H.setLo (Nat.le_refl _))) fun v' w' hr' => ?_
            obtain ⟨m', a1, a2, a3, a4⟩ := hr'
            exact ⟨m, H.back a1 a2, Post.refl _ _, flat_rel hfl a3, a4⟩
          · cases e
        · cases e
      · split at e
        · rename_i hall
          split at e
          · rename_i v1 h1 e1
            split at e
            · rename_i hfl
              cases e
              have hr0 := flatL_rel (m := fun _ _ => none) hall hr
              have hcall : CallOk P f ⟨args'⟩ w (RR (fun _ _ => none) w { bs := [], lo := 0 } v h1 True) := by
                refine callOk_of hF hb fun b cs hbf => ?_
                rw [hbody, hrs] at e1
                exact S w (E.rebase H) _ _ _ _ _ _ _ e1 F b _ _ cs w _ hres hsz (.cons (.code c) .nil) (TRel.args hr0 hu _) .nil (HRel.bare w)
              refine Calls.weaken hcall fun v' w' hr' => ?_
              obtain ⟨m', a1, a2, a3, a4⟩ := hr'
              exact ⟨m, H.over a1, Post.refl _ _, flat_rel hfl a3, a4⟩
            · cases e
          · cases e
        · cases e

theorem opK_cNil {op : BinOp} {a b : AArg} {d : TypeDesc} : opK (cNil op a b d) = .plain := by cases d <;> rfl
theorem opK_cBin {op : BinOp} {T : TypeId} {x y : Operand} : opK (cBin P op T x y) = .plain := by
  unfold cBin
  repeat' split
  all_goals first | rfl | exact opK_cNil
theorem opK_cConv {S D : TypeId} {x : Operand} : opK (cConv P S D x) = .plain := by
  unfold cConv
  repeat' split
  all_goals rfl
theorem opK_cBlt {b : Builtin} {ty : TypeId} {x : Array Operand} {y : Array TypeId} : opK (cBlt P b ty x y) = .plain := by
  unfold cBlt
  repeat' split
  all_goals rfl

theorem opK_cOp {o : Oper} (h : opK (cOp P o) ≠ .plain) : (∃ c, o.op = .call c ∧ cOp P o = cCall P c o.type false) ∨ ∃ c, o.op = .defer c ∧ cOp P o = cCall P c o.type true := by
  cases ho : o.op with
  | call c => exact .inl ⟨c, rfl, by unfold cOp; rw [ho]⟩
  | defer c => exact .inr ⟨c, rfl, by unfold cOp; rw [ho]⟩
  | binOp => exact absurd (by unfold cOp; rw [ho]; exact opK_cBin) h
  | convert => exact absurd (by unfold cOp; rw [ho]; exact opK_cConv) h
  | _ =>
    exfalso; apply h
    unfold cOp; rw [ho]
    try dsimp only
    repeat' split
    all_goals first | rfl | exact opK_cBin | exact opK_cConv | (rename_i heq; cases heq)

theorem okArgs_spec {f g : FuncId} {l r : List Value} (h : okArgs f l = some (g, r)) : g = f ∧ r = l ∧ l.any isUnd = false := by
  unfold okArgs at h
  split at h
  · cases h
  · rename_i hn
    cases h
    exact ⟨rfl, rfl, by simpa using hn⟩

theorem arr_eq {α : Type} (a : Array α) {l : List α} (h : a.toList = l) : a = l.toArray := by subst h; simp

/-- whom a call calls -/
theorem call_sim (E : Env P md C w0) {m : Mu} {t : List Value} {ρ : Operand → Value} (hρ : EvOk m t ρ) {c : Call} {ty : TypeId} {f : FuncId} {args : List Value}
    (ht : target C t (cCall P c ty false) = some (f, args)) (w : World) :
    (f < fYield ∧ ∃ args', VRelL m args args' ∧ args.any isUnd = false ∧ (do let d ← resolve ρ c ty; invoke d.target d.args : Sem Next).run P w = (callFunc f ⟨args'⟩).run P w) ∨
    (f = fYield ∧ ∃ b l sz k as as', args = as ++ [.pointer (some ⟨b, 0, some 0⟩)] ∧ m b 0 = some (l, sz, k) ∧ VRelL m as as' ∧ args.any isUnd = false ∧
      (do let d ← resolve ρ c ty; invoke d.target d.args : Sem Next).run P w = (Instr.yield l ⟨as'⟩).run P w) := by
  unfold cCall at ht
  have hargs : ∀ l, cArgs c.args = some l → VRelL m (l.map (·.ev t)) (c.args.toList.map ρ) := fun l hl => cArgs_rel hρ hl
  have hmap : c.args.map ρ = ⟨c.args.toList.map ρ⟩ := by apply Array.ext'; simp
  split at ht
  · rename_i g l hc hl
    by_cases hlt : g < fYield
    case neg => rw [if_neg hlt] at ht; simp [target] at ht
    rw [if_pos hlt] at ht
    simp only [Bool.false_eq_true, if_false, target] at ht
    obtain ⟨rfl, rfl, hu⟩ := okArgs_spec ht
    have hf : ρ (.func f) = .func (.func f) #[] #[] := by
      have := hρ (.func f) (.cst (.func (.func f) #[] #[])) (by simp only [cArg, if_pos hlt])
      simp only [AArg.ev] at this
      generalize ρ (.func f) = y at this
      cases this with
      | func _ _ _ u v _ h1 _ h2 _ =>
        have e1 : u = [] := List.eq_nil_of_length_eq_zero (by simpa using h1.symm)
        have e2 : v = [] := List.eq_nil_of_length_eq_zero (by simpa using h2.symm)
        rw [e1, e2]
    refine .inl ⟨hlt, _, hargs l hl, hu, ?_⟩
    simp only [resolve, hc, hf, Deferred.ofValue, Sem.run_bind, Sem.run_pure, Result.andThen_ok, invoke, hmap]
    simp
  · rename_i x l hnf hc hl
    split at ht
    · rename_i a ha
      simp only [Bool.false_eq_true, if_false, target] at ht
      split at ht
      · rename_i g first cap hev
        obtain ⟨rfl, rfl, hu⟩ := okArgs_spec ht
        have hx := hρ _ _ ha
        rw [hev] at hx
        obtain ⟨first⟩ := first; obtain ⟨cap⟩ := cap
        generalize hy : ρ x = y at hx
        cases hx with
        | @yield b cb sz k hb =>
          refine .inr ⟨rfl, b, cb, sz, k, l.map (·.ev t), c.args.toList.map ρ, by simp, hb, hargs l hl, hu, ?_⟩
          simp only [resolve, hc, hy, Deferred.ofValue, Sem.run_bind, Sem.run_pure, Result.andThen_ok, invoke, hmap]
          simp
        | func _ _ _ u v hlt h1 h2 h3 h4 =>
          have r1 : VRelL m first u := ⟨h1, h2⟩
          have r2 : VRelL m cap v := ⟨h3, h4⟩
          refine .inl ⟨hlt, u ++ c.args.toList.map ρ ++ v, (r1.append (hargs l hl)).append r2, hu, ?_⟩
          simp only [resolve, hc, hy, Deferred.ofValue, Sem.run_bind, Sem.run_pure, Result.andThen_ok, invoke, hmap]
          simp
      · cases ht
    · cases ht
  · rename_i r name l hc hl
    split at ht
    · rename_i a ha
      simp only [Bool.false_eq_true, if_false, target] at ht
      split at ht
      · rename_i T v hev
        split at ht
        · rename_i g hm
          obtain ⟨rfl, rfl, hu⟩ := okArgs_spec ht
          have hx := hρ _ _ ha
          rw [hev] at hx
          generalize hy : ρ r = y at hx
          cases hx with
          | iface _ _ v' hv =>
            refine .inl ⟨E.mlim _ _ _ hm, v' :: c.args.toList.map ρ, VRelL.cons hv (hargs l hl), hu, ?_⟩
            have hsz : (#[Value.iface T v'] ++ (⟨c.args.toList.map ρ⟩ : Array Value))[0]? = some (.iface T v') := by simp
            have hext : (#[Value.iface T v'] ++ (⟨c.args.toList.map ρ⟩ : Array Value)).extract 1 (#[Value.iface T v'] ++ (⟨c.args.toList.map ρ⟩ : Array Value)).size = ⟨c.args.toList.map ρ⟩ := by
              apply Array.ext'
              simp [List.extract]
              exact List.take_of_length_le (by simp)
            simp only [resolve, hc, hy, Sem.run_bind, Sem.run_pure, Result.andThen_ok, invoke, hmap, hsz, hext, callMethod]
            have hmm := E.meth _ _ _ hm v' w
            simp [hmm]
        · cases ht
      · cases ht
    · cases ht
  · simp only [Bool.false_eq_true, if_false] at ht
    rename_i b hc
    have : ∀ (op : AOp), opK op = .plain → target C t op = none := by
      intro op hk
      cases op <;> first | rfl | (simp [opK] at hk)
    rw [this _ opK_cBlt] at ht
    cases ht
  · cases ht

/-- what a deferring call defers -/
theorem defer_sim (E : Env P md C w0) {m : Mu} {t : List Value} {ρ : Operand → Value} (hρ : EvOk m t ρ) {c : Call} {ty : TypeId} {f : FuncId} {args : List Value}
    (ht : target C t (cCall P c ty true) = some (f, args)) (w : World) :
    ∃ D, (resolve ρ c ty).run P w = .ok D w ∧ DRel C m ⟨f, args⟩ D := by
  have _ := E.mix
  unfold cCall at ht
  have hargs : ∀ l, cArgs c.args = some l → VRelL m (l.map (·.ev t)) (c.args.toList.map ρ) := fun l hl => cArgs_rel hρ hl
  have hmap : c.args.map ρ = ⟨c.args.toList.map ρ⟩ := by apply Array.ext'; simp
  have key : ∀ (x : Operand) (a : AArg) (l : List AArg), c.callee = .value x → VRel m (a.ev t) (ρ x) → cArgs c.args = some l → target C t (.defer a l) = some (f, args) →
      ∃ D, (resolve ρ c ty).run P w = .ok D w ∧ DRel C m ⟨f, args⟩ D := by
    intro x a l hc hx hl ht
    simp only [target] at ht
    split at ht
    · rename_i g first cap hev
      split at ht
      · rename_i fn hfn
        obtain ⟨rfl, rfl, hu⟩ := okArgs_spec ht
        rw [hev] at hx
        obtain ⟨first⟩ := first; obtain ⟨cap⟩ := cap
        generalize hy : ρ x = y at hx
        cases hx with
        | yield => rw [E.free.1] at hfn; cases hfn
        | func _ _ _ u v _ h1 h2 h3 h4 =>
          have r1 : VRelL m first u := ⟨h1, h2⟩
          have r2 : VRelL m cap v := ⟨h3, h4⟩
          refine ⟨{ target := .fn (.func f) ⟨v⟩, args := ⟨u ++ c.args.toList.map ρ⟩ }, ?_, .inl ⟨fn, v, u ++ c.args.toList.map ρ, hfn, rfl, (r1.append (hargs l hl)).append r2, hu⟩⟩
          simp only [resolve, hc, hy, Deferred.ofValue, Sem.run_pure, hmap]
          simp
      · cases ht
    · cases ht
  split at ht
  · rename_i g l hc hl
    by_cases hlt : g < fYield
    case neg => rw [if_neg hlt] at ht; simp [target] at ht
    rw [if_pos hlt] at ht
    exact key (.func g) (.cst (.func (.func g) #[] #[])) l hc (hρ _ _ (by simp only [cArg, if_pos hlt])) hl ht
  · rename_i x l hnf hc hl
    split at ht
    · rename_i a ha
      exact key x a l hc (hρ _ _ ha) hl ht
    · cases ht
  · split at ht
    · simp [target] at ht
    · cases ht
  · simp [target] at ht
  · cases ht

/-- an operation that defers nothing -/
theorem oper_sim (E : Env P md C w0) (S : ∀ w1, Env P md C w1 → SOk P md C w1 go) (N : NoRd go) {m : Mu} {t : List Value} {a : Act} (hT : TRel m t a.tmps) {h h' : AHeap} {w : World} (H : HRel m w0 h w)
    {o : Oper} {v : Value} (e : exec1 C go t h (cOp P o) = some (v, h')) : Upon P (RR m w0 h v h' (opK (cOp P o) ≠ .plain)) ((execOp a.eval o).run P w) := by
  unfold exec1 at e
  split at e
  · rename_i hk
    refine (op_sim E.hold E.lies hT.ev H e).upon.mono fun v' w' hR => ?_
    obtain ⟨m', a1, a2, a3, _⟩ := hR
    exact ⟨m', a1, a2, a3, fun h => absurd hk h⟩
  · rename_i hk
    rcases opK_cOp (P := P) (o := o) (by rw [hk]; simp) with ⟨c, ho, hop⟩ | ⟨c, ho, hop⟩
    · split at e
      · rename_i f args ht
        rw [hop] at ht
        rcases call_sim E hT.ev ht w with ⟨hlt, args', r1, r2, r3⟩ | ⟨rfl, _⟩
        · have : (execOp a.eval o).run P w = (callFunc f ⟨args'⟩).run P w := by rw [← r3]; simp only [execOp, ho]
          rw [this]
          refine (callFunc_sim E S (lt_ne hlt) e r2 r1 H).mono fun v' w' hR => ?_
          obtain ⟨m', a1, a2, a3, a4⟩ := hR
          exact ⟨m', a1, a2, a3, fun _ => a4 trivial⟩
        · exfalso
          unfold doCall at e
          rw [E.free.1] at e
          simp only [if_true] at e
          unfold doRound at e
          split at e
          · split at e
            · cases e
            · rw [N _ _ _ _ _ rfl] at e; cases e
          · cases e
      · cases e
    · exfalso
      rw [hop] at hk
      unfold cCall at hk
      repeat' split at hk
      all_goals first | (simp [opK] at hk; done) | skip
      all_goals simp_all
  · cases e
end
end Go.Ab

/- Results, endings, one step: all but drawn regions. -/
namespace Go.Ab

section
variable {P : Program} {md : FuncId → Bool} {C : Ctx} {w0 : World} {go : K}

def resSem (tmps : Array Value) : ResultVar → Sem Value
  | .tmp t => pure (tmps.getD t undef)
  | .cell a t => do loadVar t (← asAddr (tmps.getD a undef))

theorem res1_sim (hold : OldOk C.old w0) {m : Mu} {t : List Value} {tmps : Array Value} (hT : TRel m t tmps) {h : AHeap} {w : World} (H : HRel m w0 h w) {x : ResultVar} {r : ARes}
    (hx : cRes P x = some r) {v : Value} (hv : resV C.old t h r = some v) :
    ∃ v', (resSem tmps x).run P w = .ok v' w ∧ VRel m v v' ∧ (v = .tuple #[] → v' = undef) := by
  cases x with
  | tmp i =>
    cases hx
    cases hv
    exact ⟨_, rfl, hT i⟩
  | cell a T =>
    simp only [cRes] at hx
    split at hx
    · rename_i n hg hn
      cases hx
      simp only [resV] at hv
      split at hv
      · rename_i ad hp
        have h1 := (hT a).1
        rw [ptrOf_spec hp] at h1
        obtain ⟨a', ha, har⟩ := h1.ptr
        cases hr : readN C.old h ad n with
        | none => rw [hr] at hv; cases hv
        | some c =>
          rw [hr] at hv
          simp only [Option.map_some, Option.some.injEq] at hv
          subst hv
          obtain ⟨hl, c', hc', hrun⟩ := run_readN (P := P) hold H hr har
          exact ⟨.agg ⟨c'⟩, by simp [resSem, ha, asAddr, loadVar, run_isAgg hg, run_sizeOf hn, hrun], .agg _ _ hc'.1 hc'.2, fun h => by cases h⟩
      · cases hv
    · rename_i n hg hn
      cases hx
      simp only [resV] at hv
      split at hv
      · rename_i ad hp
        have h1 := (hT a).1
        rw [ptrOf_spec hp] at h1
        obtain ⟨a', ha, har⟩ := h1.ptr
        split at hv
        · rename_i v0 hv0
          split at hv
          · cases hv
          · rename_i hun
            cases hv
            obtain ⟨v', hv', hrel⟩ := read1_sim hold H hv0 har
            exact ⟨v', by simp [resSem, ha, asAddr, loadVar, run_isAgg hg, hv'], hrel, fun h => absurd (isUnd_iff.2 h) (by simpa using hun)⟩
        · cases hv
      · cases hv
    · cases hx

theorem resL_sim (hold : OldOk C.old w0) {m : Mu} {t : List Value} {tmps : Array Value} (hT : TRel m t tmps) {h : AHeap} {w : World} (H : HRel m w0 h w) :
    ∀ {xs : List ResultVar} {rs : List ARes} {l : List Value}, xs.mapM (cRes P) = some rs → rs.mapM (resV C.old t h) = some l →
      ∃ l', (xs.mapM (resSem tmps)).run P w = .ok l' w ∧ VRelL m l l' ∧ ∀ x x', l = [x] → l' = [x'] → x = .tuple #[] → x' = undef
  | [], rs, l, h1, h2 => by
    simp at h1; subst h1; simp at h2; subst h2
    exact ⟨[], by simp, VRelL.nil m, fun x x' h => by cases h⟩
  | x :: xs, rs, l, h1, h2 => by
    simp only [List.mapM_cons] at h1
    cases e1 : cRes P x with
    | none => rw [e1] at h1; cases h1
    | some r =>
      cases e2 : xs.mapM (cRes P) with
      | none => rw [e1, e2] at h1; cases h1
      | some rs' =>
        rw [e1, e2] at h1
        cases h1
        simp only [List.mapM_cons] at h2
        cases e3 : resV C.old t h r with
        | none => rw [e3] at h2; cases h2
        | some v =>
          cases e4 : rs'.mapM (resV C.old t h) with
          | none => rw [e3, e4] at h2; cases h2
          | some l0 =>
            rw [e3, e4] at h2
            cases h2
            obtain ⟨v', a1, a2, a3⟩ := res1_sim hold hT H e1 e3
            obtain ⟨l', b1, b2, _⟩ := resL_sim hold hT H e2 e4
            refine ⟨v' :: l', by simp [List.mapM_cons, a1, b1], VRelL.cons a2 b2, fun x x' h h' => ?_⟩
            cases h; cases h'
            exact a3

theorem results_sim (hold : OldOk C.old w0) {m : Mu} {t : List Value} {tmps : Array Value} (hT : TRel m t tmps) {h : AHeap} {w : World} (H : HRel m w0 h w) {F : Func} {rs : List ARes}
    (hrs : F.results.toList.mapM (cRes P) = some rs) {v : Value} (hv : resultsA C.old rs t h = some v) : ∃ v', (results F tmps).run P w = .ok v' w ∧ VRel m v v' ∧ (v = .tuple #[] → v' = undef) := by
  unfold resultsA at hv
  have hres : results F tmps = (do let vs ← F.results.mapM (resSem tmps); pure (if h : vs.size = 1 then vs[0] else .tuple vs)) := by
    unfold results
    congr 1
  cases hm : rs.mapM (resV C.old t h) with
  | none => rw [hm] at hv; cases hv
  | some l =>
    obtain ⟨l', a1, a2, a3⟩ := resL_sim hold hT H hrs hm
    have hrun : (results F tmps).run P w = .ok (if h : (⟨l'⟩ : Array Value).size = 1 then (⟨l'⟩ : Array Value)[0] else .tuple ⟨l'⟩) w := by
      have hmm : (F.results.mapM (resSem tmps)).run P w = .ok ⟨l'⟩ w := by
        rw [Array.mapM_eq_mapM_toList]
        simp [a1]
      rw [hres, Sem.run_bind, hmm]
      rfl
    rw [hrun]
    rw [hm] at hv
    match l, l', a2, a3, hv with
    | [], l', a2, a3, hv =>
      rw [a2.nil_left] at *
      cases hv
      exact ⟨_, rfl, .any _, fun _ => rfl⟩
    | [x], l', a2, a3, hv =>
      obtain ⟨b, u, rfl, r1, r2⟩ := a2.uncons
      have hu := r2.nil_left
      subst hu
      cases hv
      exact ⟨b, rfl, r1, a3 _ _ rfl rfl⟩
    | x :: y :: l, l', a2, a3, hv =>
      have hl : (⟨l'⟩ : Array Value).size ≠ 1 := by
        have := a2.1
        simp at this ⊢
        omega
      rw [dif_neg hl]
      cases hv
      exact ⟨_, rfl, .tuple _ _ a2.1 a2.2, fun h => by cases h⟩

theorem invoke_fn {f : FuncId} {cap args : List Value} {w : World} : (invoke (.fn (.func f) ⟨cap⟩) ⟨args⟩).run P w = (callFunc f ⟨args ++ cap⟩).run P w := by
  simp [invoke]

theorem loop_tags {m : Mu} {h : AHeap} {w : World} (H : HRel m w0 h w) {r : Nat} {ps A B nt snap st} (hm : h.bs[r]? = some (.loop ps A B nt snap st)) (t : Nat) : m r (t + 1) = none := by
  cases hx : m r (t + 1) with
  | none => rfl
  | some x => obtain ⟨cb, sz, k⟩ := x; obtain ⟨_, hb⟩ := H.blk _ _ _ _ _ hx; rw [hm] at hb; exact absurd hb.1 (by omega)
theorem dfr_tags {m : Mu} {h : AHeap} {w : World} (H : HRel m w0 h w) {r : Nat} {tk : Bool} (hm : h.bs[r]? = some (.dfr tk)) (t : Nat) : m r (t + 1) = none := by
  cases hx : m r (t + 1) with
  | none => rfl
  | some x => obtain ⟨cb, sz, k⟩ := x; obtain ⟨_, hb⟩ := H.blk _ _ _ _ _ hx; rw [hm] at hb; exact absurd hb.1 (by omega)
theorem fin_sim (E : Env P md C w0) (S : ∀ w1, Env P md C w1 → SOk P md C w1 go) {F : Func} {rs : List ARes} (hrs : F.results.toList.mapM (cRes P) = some rs) {t : List Value} {b : Frame} {cs : List Frame} :
    ∀ {ds : List ADefer} {h h' : AHeap} {v : Value} {fr : Frame} {w : World} {m : Mu}, fin C go rs t ds h = some (v, h') → TRel m t fr.tmps → DRelL C m ds fr.defers → HRel m w0 h w →
      fr.mode = .returning → fr.fn = b.fn → fr.kind = b.kind → Fin P F b cs (lone fr cs w) (RR m w0 h v h' True)
  | [], h, h', v, fr, w, m, e, hT, hD, H, hmode, hfn, hk => by
    simp only [fin] at e
    cases hr : resultsA C.old rs t h with
    | none => rw [hr] at e; cases e
    | some v1 =>
      rw [hr] at e
      cases e
      obtain ⟨v', r1, r2, r3⟩ := results_sim E.hold hT H hrs hr
      have hd : fr.defers = [] := by
        generalize fr.defers = D at hD
        cases hD; rfl
      exact ⟨v', w, fr, ⟨m, H, Post.refl _ _, r2, fun _ => r3⟩, Steps.refl _ _, hmode, hd, hfn, hk, r1⟩
  | d :: ds, h, h', v, fr, w, m, e, hT, hD, H, hmode, hfn, hk => by
    simp only [fin] at e
    cases hc : doCall C go d.f d.args h with
    | none => rw [hc] at e; cases e
    | some p =>
      obtain ⟨v1, h1⟩ := p
      rw [hc] at e
      simp only at e
      generalize hdd : fr.defers = D at hD
      cases hD with
      | cons hd hds =>
       rename_i D0 Ds
       rcases hd with ⟨fn, cap, as, x1, x2, x3, x4⟩ | ⟨x1, b1, r, sz, kk, x2, x3, x4⟩
       · have hu := callFunc_sim E S ⟨fun hh => (by rw [hh, E.free.1] at x1; cases x1), fun hh => (by rw [hh, E.free.2] at x1; cases x1)⟩ hc x4 x3 H
         obtain ⟨F1, hF1, hc1⟩ := E.fn _ _ x1
         obtain ⟨c1, r1, hb1, _, hn1, _⟩ := cFn_spec hc1
         rw [run_callFunc hF1 hb1 hn1] at hu
         have hinv : (invoke D0.target D0.args).run P w = .ok (.enter d.f ⟨as ++ cap⟩) w := by
           rw [x2]; rw [invoke_fn, run_callFunc hF1 hb1 hn1]
         have s1 := step_defer (P := P) (fr := fr) (cs := cs) (w := w) (d := D0) (ds := Ds) (fv := .func d.f) (cap := ⟨cap⟩) (f := d.f) (args := ⟨as ++ cap⟩) (by rw [hmode]; simp) hdd (by rw [x2]) hinv
         obtain ⟨e1, u', w', frX, hR, hsteps, hkX, hgo⟩ := hu.2 fr.mode { fr with defers := Ds } cs rfl
         obtain ⟨rfl, hR⟩ := hR
         cases e1 with
         | returned v1' =>
           obtain ⟨m1, H1, P1, V1, _⟩ := hR
           have s2 := step_going_returned (P := P) (c := { fr with defers := Ds }) (cs := cs) hkX hgo
           have hset : settle ({ fr with defers := Ds } : Frame).mode = .returning := by simp only [hmode]; rfl
           have := fin_sim E S hrs (b := b) (cs := cs) (fr := { { fr with defers := Ds } with mode := settle ({ fr with defers := Ds } : Frame).mode }) e (hT.mono P1.le) (hds.mono P1.le) H1 hset hfn hk
           refine (Fin.of_steps ?_ this).mono fun v w hr => RR.trans P1 hr
           exact .head s1 (Steps.trans hsteps (.one s2))
         | panicked => exact hR.elim
         | outgrown => exact hR.elim
       · have hcall : doCall C go d.f d.args h = doTake d.args h := by
           unfold doCall
           rw [x1, E.free.2]
           simp only [if_true]
           rw [if_neg (by decide)]
         rw [hcall, x2] at hc
         simp only [doTake] at hc
         split at hc
         · rename_i hb1
           split at hc
           · rename_i hlo
             simp only [Option.some.injEq, Prod.mk.injEq] at hc
             obtain ⟨rfl, rfl⟩ := hc
             obtain ⟨_, hbr⟩ := H.blk _ _ _ _ _ x3
             rw [hb1] at hbr
             obtain ⟨_, hheap⟩ := hbr
             have ht := run_takeDeferred (P := P) (w := w) (b := r) (ds := []) (by simpa using hheap)
             have s1 := step_collected (P := P) (fr := fr) (cs := cs) (w := w) (d := D0) (r := r) (ds := Ds) (calls := []) (by rw [hmode]; simp) hdd (by rw [x4]) ht
             obtain ⟨H1, P1⟩ := H.setObj (blk := .dfr true) (ob := .deferred none) x3 hlo (dfr_tags H hb1) ⟨rfl, rfl⟩
             have := fin_sim E S hrs (b := b) (cs := cs) (fr := { fr with defers := Ds }) (w := putBlock w r (.deferred none)) e hT hds H1 hmode hfn hk
             exact (Fin.of_steps (.one s1) this).mono fun v w hr => RR.trans P1 hr
           · cases hc
         · cases hc

/-- one operation of a region in order -/
theorem op_step {X : Act → World → Prop} {b : Frame} {a : Act} {k : List Item} {cs : List Frame} {w : World} {ops : Array Oper} {i : Nat} {rest : List Nat} {o : Oper}
    (ho : ops[i]? = some o) (hw : Region.wanted o (yielded ops a.tmps) = true) (h : o.upon P a X (fun _ _ _ => False) ((execOp a.eval o).run P w)) :
    ∃ a' w', X a' w' ∧ Steps P (lone (b.at a (.inRegion ops (i :: rest) :: k)) cs w) (lone (b.at a' (.inRegion ops rest :: k)) cs w') := by
  simp only [Oper.upon] at h
  have hg := stepG_op (P := P) (b := b) (k := k) (cs := cs) (w := w) (rest := rest) ho hw
  have hfin : ∀ v, (b.at a (.inRegion ops (i :: rest) :: k)).finish v = b.at (a.put o.dst v) (.inRegion ops rest :: k) := by
    intro v; rw [Frame.finish_at, ho]; rfl
  split at h
  · rename_i v w' hr
    exact ⟨_, _, h, .one (step_lone_go (by rw [hg, ← hfin]; simp [stepG.apply, hr]))⟩
  · rename_i w' hr
    exact ⟨_, _, h, .one (step_lone_go (by rw [hg, ← hfin]; simp [stepG.apply, hr]))⟩
  · rename_i d w' hr
    refine ⟨_, _, h, .one (step_lone_go ?_)⟩
    have : ({ b.at a (.inRegion ops (i :: rest) :: k) with defers := d :: a.defers } : Frame).finish undef =
        b.at ({ a with defers := d :: a.defers }.put o.dst undef) (.inRegion ops rest :: k) := by
      have := Frame.finish_at b { a with defers := d :: a.defers } ops i rest k undef
      rw [ho] at this; exact this
    rw [hg]; simp only [stepG.apply, Sem.runT_eq, hr, GStep.bare_after]
    exact congrArg (fun fr => GStep.go { frame := fr, callers := cs, status := .running, dying := none } w') this
  · rename_i f args w' hr
    obtain ⟨e, w'', fr, hR, hsteps, _, hleave⟩ := h (b.at a (.inRegion ops (i :: rest) :: k) :: cs)
    have henter : step P (lone (b.at a (.inRegion ops (i :: rest) :: k)) cs w) =
        .next (lone (Frame.enter P f args .normal) (b.at a (.inRegion ops (i :: rest) :: k) :: cs) w') :=
      step_lone_go (by rw [hg]; simp [stepG.apply, hr, Frame.at])
    cases e with
    | returned v =>
      refine ⟨_, _, hR, .head henter (hsteps.trans (.one ?_))⟩
      rw [← hfin]; exact step_leave_returned hleave
    | panicked chain => exact hR.elim
    | outgrown => obtain ⟨_, _, hq⟩ := hR; exact hq.elim
  · rename_i row args w' hr
    obtain ⟨v, w'', hR, hsteps⟩ := h (b.at a (.inRegion ops (i :: rest) :: k)) cs
    have henter : step P (lone (b.at a (.inRegion ops (i :: rest) :: k)) cs w) =
        .next (lone (Frame.ofRow P row args .normal) (b.at a (.inRegion ops (i :: rest) :: k) :: cs) w') :=
      step_lone_go (by rw [hg]; simp [stepG.apply, hr, Frame.at])
    exact ⟨_, _, hR, .head henter (by rw [← hfin]; exact hsteps)⟩
  · exact h.elim
  · exact h.elim

theorem Upon.upon {o : Oper} {a : Act} {R : Value → World → Prop} {X : Act → World → Prop} {Q : Exit → Act → World → Prop} {r : Result Next} (h : Upon P R r)
    (hx : ∀ v w, R v w → X (a.put o.dst v) w) : o.upon P a X Q r := by
  cases r with
  | ok n w' =>
    cases n with
    | value v => exact hx _ _ h
    | skip => exact hx _ _ h
    | enter f args =>
      refine h.1.mono fun e w'' he => ?_
      cases e with
      | returned v => exact hx _ _ he
      | panicked => exact he.elim
      | outgrown => exact he.elim
    | _ => exact h.elim
  | halt x w' => exact h.elim

theorem cOper_cases (ops : Array Oper) (n : Nat) (o : Oper) : cOper P ops n o = badOper ∨
    ∃ g, cGuard ops n o = some g ∧ (∀ d, o.dst = some d → d < n) ∧ cOper P ops n o = { dst := o.dst, guard := g, op := cOp P o } := by
  unfold cOper
  cases hg : cGuard ops n o with
  | none => exact .inl rfl
  | some g =>
    simp only
    split
    · rename_i hd
      refine .inr ⟨g, rfl, fun d hd' => ?_, rfl⟩
      rw [hd'] at hd
      simpa [dstFits] using hd
    · exact .inl rfl

theorem wantedA_spec {m : Mu} {t : List Value} {a : Act} (hT : TRel m t a.tmps) {ops : Array Oper} {n : Nat} {o : Oper} (hn : n ≤ a.tmps.size) {g : Option (Nat × Bool)}
    (hb : cGuard ops n o = some g) : wantedA t g = Region.wanted o (yielded ops a.tmps) := by
  unfold cGuard at hb
  unfold Region.wanted
  cases hg : o.guard with
  | none => rw [hg] at hb; cases hb; rfl
  | some gw =>
    obtain ⟨j, wt⟩ := gw
    rw [hg] at hb
    simp only at hb ⊢
    cases hd : (ops[j]?).bind (·.dst) with
    | none => rw [hd] at hb; cases hb
    | some g' =>
      rw [hd] at hb
      simp only at hb
      split at hb
      · rename_i hlt
        cases hb
        have hsz : g' < a.tmps.size := Nat.lt_of_lt_of_le hlt hn
        have hy : yielded ops a.tmps j = (match a.tmps.getD g' undef with | .bool b => some b | _ => none) := by
          unfold yielded
          rw [hd]
          simp only [Option.bind_some, Array.getD_eq_getD_getElem?, Array.getElem?_eq_getElem hsz, Option.getD_some]
          cases a.tmps[g'] <;> rfl
        rw [hy]
        simp only [wantedA]
        obtain ⟨h1, h2⟩ := hT g'
        generalize tg t g' = x at h1 h2
        generalize a.tmps.getD g' undef = y at h1 h2
        cases h1 with
        | any v => rw [h2 rfl]; rfl
        | bool b => cases b <;> cases wt <;> rfl
        | _ => rfl
      · cases hb

theorem afindLabel_spec {n : Nat} {l : Nat} : ∀ (c : Code), afindLabel (cCode P md n c) l = (findLabel c l).map (cCode P md n)
  | .seq a b => by
    simp only [cCode, afindLabel, findLabel, afindLabel_spec a, afindLabel_spec b]
    cases findLabel a l <;> simp [cCode]
  | .label l' => by
    simp only [cCode, afindLabel, findLabel]
    by_cases h : l' = l
    · simp [h, cCode]
    · simp [h]
  | .cond c a b => by
    simp only [cCode, findLabel]
    split <;> rfl
  | .region id ops true => by
    simp only [cCode, findLabel]
    split <;> rfl
  | .region id ops false => rfl
  | .skip => rfl
  | .block _ _ => rfl
  | .loop _ => rfl
  | .rangeFunc .. => by
    simp only [cCode, findLabel]
    split
    · split <;> rfl
    · rfl
  | .exit _ => rfl
  | .scope _ => rfl
  | .goto _ => rfl
  | .ret => rfl
  | .refuse _ => rfl

theorem exit_sim {n id : Nat} {k : List AItem} {K : List Item} (h : KRel P md n k K) : ∀ {k'}, aexitTo id k = some k' → ∃ K', exitTo id K = some K' ∧ KRel P md n k' K' := by
  induction h with
  | nil => intro k' e; cases e
  | cons hx hk ih =>
    intro k' e
    cases hx with
    | inBlock id' =>
      simp only [aexitTo, exitTo] at e ⊢
      by_cases hid : id' = id
      · rw [if_pos hid] at e
        cases e
        exact ⟨_, by simp [hid], hk⟩
      · rw [if_neg hid] at e
        obtain ⟨K', h1, h2⟩ := ih e
        exact ⟨K', by simp [hid, h1], h2⟩
    | _ =>
      simp only [aexitTo, exitTo] at e ⊢
      exact ih e

theorem goto_sim {n l : Nat} {k : List AItem} {K : List Item} (h : KRel P md n k K) : ∀ {k'}, agotoIn l k = some k' → ∃ K', gotoIn l K = some K' ∧ KRel P md n k' K' := by
  induction h with
  | nil => intro k' e; cases e
  | cons hx hk ih =>
    intro k' e
    cases hx with
    | inScope body =>
      simp only [agotoIn, gotoIn, afindLabel_spec] at e ⊢
      cases hf : findLabel body l with
      | some rest =>
        rw [hf] at e
        cases e
        exact ⟨_, rfl, .cons (.code rest) (.cons (.inScope body) hk)⟩
      | none =>
        rw [hf] at e
        exact ih e
    | _ =>
      simp only [agotoIn, gotoIn] at e ⊢
      exact ih e
end
end Go.Ab

/- Drawn regions: whatever the order, what the abstract machine says comes out. -/
namespace Go.Ab

structure DOk (d : DI) : Prop where
  lenL : d.L.length = d.n
  lenO : d.ops.size = d.n
  lenC : d.c.length = d.n
  posL : ∀ i, i < d.n → d.p i < d.n ∧ d.L[d.p i]? = some i
  Lpos : ∀ q, q < d.n → ∃ i, d.L[q]? = some i ∧ i < d.n ∧ d.p i = q
  edge : ∀ i, i < d.n → ∀ e ∈ edgesOf (d.ops.getD i default), e < d.n ∧ d.p e < d.p i
  anc : ∀ i j, i < d.n → j < d.n → d.A i j = true → d.p j < d.p i ∧ ∃ e ∈ edgesOf (d.ops.getD i default), e = j ∨ d.A e j = true
  reads : ∀ i, i < d.n → ∀ o, d.c[i]? = some o → ∀ t ∈ readsA o, ∀ k, k < d.n → d.dst k = some t → k = i ∨ d.A i k = true ∨ d.A k i = true
  dsts : ∀ i j, i < d.n → j < d.n → ∀ t, d.dst i = some t → d.dst j = some t → i = j
  heavy : ∀ i j, i < d.n → j < d.n → d.heavy i = true → d.heavy j = true → i = j ∨ d.A i j = true ∨ d.A j i = true
  alloc : ∀ i, i < d.n → d.cl.getD i 2 = 3 → ∀ j, j < d.n → d.heavy j = true → d.p j < d.p i → d.A i j = true

theorem DI.ok_spec {d : DI} (h : d.ok = true) : DOk d := by
  unfold DI.ok at h
  simp only [Bool.and_eq_true, List.all_eq_true, List.mem_range, beq_iff_eq, decide_eq_true_eq] at h
  obtain ⟨⟨⟨⟨⟨⟨⟨⟨⟨⟨h1, h2⟩, h3⟩, h4⟩, h5⟩, h6⟩, h7⟩, h8⟩, h9⟩, h10⟩, h11⟩ := h
  refine ⟨h1, h2, h3, h4, fun q hq => ?_, fun i hi e he => h6 i hi e he, fun i j hi hj hA => ?_, fun i hi o ho t ht k hk hd => ?_, fun i j hi hj t hdi hdj => ?_, fun i j hi hj hh1 hh2 => ?_, fun i hi hc j hj hh hp => ?_⟩
  · have := h5 q hq
    split at this
    · rename_i i hi
      simp only [Bool.and_eq_true, decide_eq_true_eq, beq_iff_eq] at this
      exact ⟨i, hi, this.1, this.2⟩
    · cases this
  · have := h7 i hi j hj
    simp only [hA, Bool.not_true, Bool.false_or, Bool.and_eq_true, decide_eq_true_eq, List.any_eq_true, Bool.or_eq_true, beq_iff_eq] at this
    exact this
  · have := h8 i hi
    rw [ho] at this
    simp only [List.all_eq_true, List.mem_range] at this
    have := this t ht k hk
    rw [hd] at this
    simp only [BEq.rfl, if_true, Bool.or_eq_true, beq_iff_eq] at this
    rcases this with (h | h) | h
    · exact .inl h
    · exact .inr (.inl h)
    · exact .inr (.inr h)
  · have := h9 i hi j hj
    rw [hdi, hdj] at this
    simpa using this
  · have := h10 i hi j hj
    simp only [hh1, hh2, Bool.not_true, Bool.false_or, Bool.or_eq_true, beq_iff_eq] at this
    rcases this with (h | h) | h
    · exact .inl h
    · exact .inr (.inl h)
    · exact .inr (.inr h)
  · have := h11 i hi
    rw [if_pos (by simpa using hc)] at this
    simp only [List.all_eq_true, List.mem_range] at this
    have := this j hj
    simpa [hh, hp] using this

theorem stage_cons_succ (x : Tr) (tr : List Tr) (hf : AHeap) (p : Nat) : stage (x :: tr) hf (p + 1) = stage tr hf p := by simp [stage]
theorem stage_of {tr : List Tr} {hf : AHeap} {p : Nat} {x : Tr} (h : tr[p]? = some x) : stage tr hf p = x.h := by simp [stage, h]

def envOf (tr : List Tr) (t : List Value) : List Value := tr.foldl (fun t x => putD t x.o.dst x.v) t

section
variable {P : Program} {md : FuncId → Bool} {C : Ctx} {w0 : World} {go : K}

theorem seqRun_spec : ∀ {l : List AOper} {t : List Value} {h : AHeap} {tr : List Tr} {tf : List Value} {hf : AHeap}, seqRun C go l t h = some (tr, tf, hf) →
    tr.length = l.length ∧ stage tr hf 0 = h ∧ tf = envOf tr t ∧ ∀ p x, tr[p]? = some x → l[p]? = some x.o ∧ stage tr hf (p + 1) = x.h' ∧
      (if wantedA x.t x.o.guard then resOk (pdst x.o) (exec1 C go x.t x.h x.o.op) else some (.tuple #[], x.h)) = some (x.v, x.h') ∧ x.t = envOf (tr.take p) t
  | [], t, h, tr, tf, hf, e => by
    simp only [seqRun, Option.some.injEq, Prod.mk.injEq] at e
    obtain ⟨rfl, rfl, rfl⟩ := e
    exact ⟨rfl, rfl, rfl, fun p x hx => by simp at hx⟩
  | o :: os, t, h, tr, tf, hf, e => by
    simp only [seqRun] at e
    cases he : (if wantedA t o.guard then resOk (pdst o) (exec1 C go t h o.op) else some (.tuple #[], h) : Res) with
    | none => rw [he] at e; cases e
    | some p =>
      obtain ⟨v, h1⟩ := p
      rw [he] at e
      simp only at e
      cases hs : seqRun C go os (putD t o.dst v) h1 with
      | none => rw [hs] at e; cases e
      | some q =>
        obtain ⟨tr', tf', hf'⟩ := q
        rw [hs] at e
        simp only [Option.map_some, Option.some.injEq, Prod.mk.injEq] at e
        obtain ⟨rfl, rfl, rfl⟩ := e
        obtain ⟨a1, a2, a3, a4⟩ := seqRun_spec hs
        refine ⟨by simp [a1], rfl, by rw [a3]; rfl, fun p x hx => ?_⟩
        cases p with
        | zero =>
          simp only [List.getElem?_cons_zero, Option.some.injEq] at hx
          subst hx
          exact ⟨rfl, by rw [stage_cons_succ, a2], he, rfl⟩
        | succ p =>
          simp only [List.getElem?_cons_succ] at hx
          obtain ⟨b1, b2, b3, b4⟩ := a4 p x hx
          exact ⟨by simpa using b1, by rw [stage_cons_succ, b2], b3, by rw [b4]; rfl⟩

theorem env_none {tr : List Tr} : ∀ {t : List Value} {y : Nat}, (∀ x ∈ tr, x.o.dst ≠ some y) → tg (envOf tr t) y = tg t y := by
  induction tr with
  | nil => intro t y _; rfl
  | cons x tr ih =>
    intro t y h
    have := ih (t := putD t x.o.dst x.v) (y := y) fun z hz => h z (by simp [hz])
    unfold envOf at this ⊢
    rw [List.foldl_cons, this, tg_putD, if_neg (h x (by simp))]

theorem env_some {tr : List Tr} {q : Nat} {x : Tr} {y : Nat} (hx : tr[q]? = some x) (hd : x.o.dst = some y)
    (hu : ∀ q' x', tr[q']? = some x' → x'.o.dst = some y → q' = q) (t : List Value) : tg (envOf tr t) y = x.v := by
  induction tr generalizing q t with
  | nil => simp at hx
  | cons z tr ih =>
    cases q with
    | zero =>
      simp only [List.getElem?_cons_zero, Option.some.injEq] at hx
      subst hx
      have : tg (envOf tr (putD t z.o.dst z.v)) y = tg (putD t z.o.dst z.v) y := env_none fun x' hx' hd' => by
        obtain ⟨i, hi, rfl⟩ := List.getElem_of_mem hx'
        have := hu (i + 1) tr[i] (by simp [hi]) hd'
        omega
      unfold envOf at this ⊢
      rw [List.foldl_cons, this, tg_putD, if_pos hd]
    | succ q =>
      simp only [List.getElem?_cons_succ] at hx
      unfold envOf
      rw [List.foldl_cons]
      exact ih hx (fun q' x' h1 h2 => by
        have := hu (q' + 1) x' (by simpa using h1) h2
        omega) _

theorem HRel.pushU {m : Mu} {w : World} {h : AHeap} (H : HRel m w0 h w) (blk : ABlock) : HRel m w0 (h.push blk) w := by
  refine ⟨H.base, H.old, H.os, H.output, H.tape, by simp [AHeap.push]; exact Nat.le_succ_of_le H.lo, fun b t cb sz k hm => ?_, H.inj⟩
  have hl := (H.lt hm).1
  have : (h.push blk).bs[b]? = h.bs[b]? := by simp [AHeap.push, List.getElem?_append_left hl]
  rw [this]
  exact H.blk _ _ _ _ _ hm

theorem Post.pushU {m m1 : Mu} {h h1 : AHeap} (p : Post m h m1 h1) (hlo : h.lo ≤ h.bs.length) (blk : ABlock) : Post m h m1 (h1.push blk) := by
  have hb : ∀ b, b < h.bs.length → (h1.push blk).bs[b]? = h1.bs[b]? := fun b hb => by
    have := Nat.lt_of_lt_of_le hb p.len
    simp [AHeap.push, List.getElem?_append_left this]
  refine ⟨p.le, by simp [AHeap.push]; exact Nat.le_succ_of_le p.len, p.lo, fun b hlt => ?_, fun b hlt hu => ?_⟩
  · rw [hb b (Nat.lt_of_lt_of_le hlt hlo)]; exact p.prot b hlt
  · rw [hb b hlt]; exact p.unm b hlt hu

/-- memory that the abstract side knew of before -/
theorem HRel.late {m : Mu} {w : World} {h : AHeap} (H : HRel m w0 h w) {b : Nat} {blk : ABlock} {o : Obj} {sz k : Nat} (hx : h.bs[b]? = some blk) (hm : ∀ s, m b s = none)
    (hb : BRel m 0 sz k (some o) (some blk)) : HRel (m.set b 0 (w.heap.size, sz, k)) w0 h (w.alloc o) ∧ m.le (m.set b 0 (w.heap.size, sz, k)) := by
  have hle : m.le (m.set b 0 (w.heap.size, sz, k)) := fun b' t' x hx0 => by
    unfold Mu.set
    rw [if_neg]
    · exact hx0
    · rintro ⟨rfl, _⟩; rw [hm t'] at hx0; cases hx0
  have hne : ∀ i, i < w.heap.size → (w.alloc o).heap[i]? = w.heap[i]? := fun i hi => by
    simp only [World.alloc, Array.getElem?_push]; rw [if_neg (Nat.ne_of_lt hi)]
  refine ⟨⟨by simp; exact Nat.le_succ_of_le H.base, fun i hi => ?_, H.os, H.output, H.tape, H.lo, ?_, ?_⟩, hle⟩
  · rw [hne i (Nat.lt_of_lt_of_le hi H.base)]; exact H.old i hi
  · intro b' t' cb sz' k' hm'
    unfold Mu.set at hm'
    split at hm'
    · rename_i hc
      obtain ⟨rfl, rfl⟩ := hc
      cases hm'
      refine ⟨H.base, ?_⟩
      rw [show (w.alloc o).heap[w.heap.size]? = some o from heap_alloc_new w o, hx]
      exact hb.mono hle
    · obtain ⟨h1, h2⟩ := H.blk _ _ _ _ _ hm'
      obtain ⟨l1, l2⟩ := H.lt hm'
      exact ⟨h1, by rw [hne cb l2]; exact h2.mono hle⟩
  · intro b1 t1 b2 t2 cb s1 k1 s2 k2 e1 e2
    unfold Mu.set at e1 e2
    split at e1 <;> split at e2
    · rename_i c1 c2; exact c1.1.trans c2.1.symm
    · cases e1; exact absurd (H.lt e2).2 (Nat.lt_irrefl _)
    · cases e2; exact absurd (H.lt e1).2 (Nat.lt_irrefl _)
    · exact H.inj _ _ _ _ _ _ _ _ _ e1 e2

def litV : AOp → Nat → Value
  | .buildSlice _ _ n _, b => .slice (some ⟨b, 0, some 0⟩) n n
  | _, b => .pointer (some ⟨b, 0, some 0⟩)
theorem litV_ne (op : AOp) (b : Nat) : litV op b ≠ .tuple #[] := by cases op <;> (intro h; cases h)
theorem cst_ev {t t2 : List Value} : ∀ {ps : List (Nat × Nat × AArg)}, cstParts ps = true → (ps.map fun (o, n, x) => (o, n, x.ev t)) = ps.map fun (o, n, x) => (o, n, x.ev t2)
  | [], _ => rfl
  | (o, n, .cst v) :: l, h => by
    exact congrArg ((o, n, v) :: ·) (cst_ev (ps := l) h)
  | (o, n, .tmp i) :: l, h => by simp [cstParts] at h
theorem lit_exec {op : AOp} (hl : isLit op = true) {t : List Value} {h h' : AHeap} {v : Value} (e : aexec C t h op = some (v, h')) :
    ∃ blk, v = litV op h.bs.length ∧ h' = h.push blk ∧ (∀ t2 h2, aexec C t2 h2 op = some (litV op h2.bs.length, h2.push blk)) := by
  cases op <;> simp only [isLit, Bool.false_eq_true] at hl
  case box e0 x =>
    cases x with
    | tmp i => simp [isLit] at hl
    | cst z =>
      simp only [aexec] at e
      split at e
      · rename_i hok
        cases e
        refine ⟨_, rfl, rfl, fun t2 h2 => ?_⟩
        show (if (cellsOf z).all okCell = true then some (Value.pointer (some ⟨h2.bs.length, 0, some 0⟩), h2.push (.cells (cellsOf z) (e0 + 1))) else none) = _
        exact if_pos hok
      · cases e
  case buildSlice e0 z n ps =>
    simp only [Bool.and_eq_true, bne_iff_ne, ne_eq] at hl
    obtain ⟨hn, hc⟩ := hl
    simp only [aexec] at e
    cases hf : fillCells z (ps.map fun (o, n, x) => (o, n, x.ev t)) with
    | none => rw [hf] at e; cases e
    | some c =>
      rw [hf] at e
      simp only at e
      by_cases hok : c.all okCell = true
      · rw [if_pos hok, if_neg hn] at e
        cases e
        refine ⟨_, rfl, rfl, fun t2 h2 => ?_⟩
        simp only [aexec]
        rw [cst_ev (t := t2) (t2 := t) hc, hf]
        simp only
        rw [if_pos hok, if_neg hn]; rfl
      · rw [if_neg hok] at e; cases e

/-- what a literal does in the model -/
theorem run_lit {o : Oper} {op : AOp} (ho : isAlloc o.op = true) (hop : cOp P o = op) (hl : isLit op = true) {m : Mu} {t : List Value} {ρ : Operand → Value} (hρ : EvOk m t ρ) {h : AHeap} {v : Value} {blk : ABlock} (w : World)
    (e : aexec C t h op = some (v, h.push blk)) :
    ∃ v' o' sz, (execOp ρ o).run P w = .ok (.value v') (w.alloc o') ∧ BRel m 0 sz 0 (some o') (some blk) ∧ ∀ (m' : Mu) b, m' b 0 = some (w.heap.size, sz, 0) → VRel m' (litV op b) v' := by
  have pi : ∀ {a b : ABlock}, h.push a = h.push b → a = b := fun hh => by
    have := congrArg (fun x : AHeap => x.bs[h.bs.length]?) hh
    simpa [AHeap.push] using this
  cases hop' : o.op with
  | alloc ty =>
    unfold cOp at hop
    rw [hop'] at hop
    simp only at hop
    split at hop
    · rename_i z' hz
      subst hop
      replace e : (if (cellsOf z').all okCell = true then some (Value.pointer (some ⟨h.bs.length, 0, some 0⟩), h.push (.cells (cellsOf z') (ty + 1))) else none) = some (v, h.push blk) := e
      by_cases hok : (cellsOf z').all okCell = true
      · rw [if_pos hok] at e
        simp only [Option.some.injEq, Prod.mk.injEq] at e
        have hb := pi e.2
        obtain ⟨i, hi, hz1, hz2⟩ := zeroOf_spec hz
        have hc := (constOk_self (m := m) z' hz2).cells hok
        refine ⟨.pointer (some ⟨w.heap.size, 0, none⟩), .cells z'.cells ty, z'.cells.size, by simp [execOp, hop', Instr.alloc, run_zeroValue hz, newVar, newRow], ?_, fun m' b hm => .ptrNew 0 hm⟩
        rw [← hb]
        exact ⟨rfl, z'.cells, ty, 0, 0, rfl, rfl, hc, fun _ => ⟨free_zero _, rfl⟩⟩
      · rw [if_neg hok] at e; cases e
    · subst hop; simp [isLit] at hl
  | buildSlice ty len parts =>
    subst hop
    unfold cOp at e hl ⊢
    rw [hop'] at e hl ⊢
    simp only at e hl ⊢
    split at e
    · rename_i e' hu
      split at e
      · rename_i k z hk hz
        split at e
        · rename_i hcond
          obtain ⟨hk0, hzl, hlim⟩ := hcond
          split at e
          · rename_i l hl2
            simp only [aexec] at e
            split at e
            · rename_i c hf
              split at e
              · rename_i hok
                simp only [hu, hk, hz, hl2] at hl ⊢
                rw [if_pos ⟨hk0, hzl, hlim⟩] at hl ⊢
                simp only [isLit, Bool.and_eq_true, bne_iff_ne, ne_eq] at hl
                have hl0 := hl.1
                rw [if_neg hl0] at e
                simp only [Option.some.injEq, Prod.mk.injEq] at e
                have hb := pi e.2
                obtain ⟨i, hi, hz1, hz2⟩ := zeroOf_spec hz
                have hzs : z.cells.toList = cellsOf z := by cases z <;> rfl
                have hzsz : z.cells.size = k := by rw [← hzl, ← hzs]; exact Array.length_toList.symm
                have hrow := zeroRow_eq z.cells len k hzsz hk0
                have hcell : VRelL m (zeroFill (cellsOf z) len) ((Array.range (len * k)).map fun x => z.cells[x % z.cells.size]!).toList := by
                  rw [hrow, hzs]
                  refine ⟨rfl, fun j a b ha hb => ?_⟩
                  rw [ha] at hb; cases hb
                  have hmem : a ∈ cellsOf z := by
                    have := List.mem_of_getElem? ha
                    unfold zeroFill at this
                    simp only [List.mem_flatten, List.mem_replicate] at this
                    obtain ⟨_, ⟨_, rfl⟩, h3⟩ := this
                    exact h3
                  exact constOk_self a (by
                    cases z with
                    | agg l => obtain ⟨l⟩ := l; simp only [constOk] at hz2; exact constOkL_spec hz2 a (by simpa [cellsOf] using hmem)
                    | _ => simp only [cellsOf, List.mem_singleton] at hmem; subst hmem; exact hz2)
                obtain ⟨cc, q1, q2⟩ := fill_sim (fun _ _ hx => hx) hρ parts.toList l _ c _ hl2 hf hcell
                have hrun : (execOp ρ o).run P w = .ok (.value (.slice (some ⟨w.heap.size, 0, none⟩) len len)) (w.alloc (.cells cc e')) := by
                  have hne : ¬ len * k = 0 := by
                    have := Nat.mul_pos (Nat.pos_of_ne_zero hl0) hk0
                    omega
                  have hlim' : ¬ (len * k > 2 ^ 24) := by omega
                  simp only [execOp, hop', Instr.buildSlice, Sem.run_bind, run_under hu, Result.andThen_ok, run_sizeOf hk, hlim', if_false, hne, Sem.run_ite, run_zeroValue hz, Sem.run_pure, Array.toList_map]
                  simp only [q1]
                  simp [newRow]
                refine ⟨_, _, cc.size, hrun, ?_, fun m' b hm => .slPlain 0 len len hm⟩
                rw [← hb]
                exact ⟨rfl, cc, e', 0, 0, rfl, rfl, q2, fun _ => ⟨free_zero _, rfl⟩⟩
              · cases e
            · cases e
          · simp [aexec] at e
        · simp [aexec] at e
      · simp [aexec] at e
    · simp [aexec] at e
  | _ => rw [hop'] at ho; simp [isAlloc] at ho

/-- a literal of which the abstract side knew before -/
theorem late_lit {o : Oper} {op : AOp} (ho : isAlloc o.op = true) (hop : cOp P o = op) (hl : isLit op = true) {m : Mu} {t : List Value} {ρ : Operand → Value} (hρ : EvOk m t ρ) {h : AHeap} {w : World} (H : HRel m w0 h w) {h0 : AHeap} {v : Value} {blk : ABlock} {b : Nat}
    (e : aexec C t h0 op = some (v, h0.push blk)) (hx : h.bs[b]? = some blk) (hm : ∀ s, m b s = none) :
    ∃ v' w' sz, (execOp ρ o).run P w = .ok (.value v') w' ∧ HRel (m.set b 0 (w.heap.size, sz, 0)) w0 h w' ∧ m.le (m.set b 0 (w.heap.size, sz, 0)) ∧
      VRel (m.set b 0 (w.heap.size, sz, 0)) (litV op b) v' := by
  obtain ⟨v', o', sz, r1, r2, r3⟩ := run_lit (P := P) ho hop hl hρ w e
  obtain ⟨h1, h2⟩ := H.late hx hm r2
  exact ⟨v', _, sz, r1, h1, h2, r3 _ _ (Mu.set_self _ _ _ _)⟩

theorem opK_pure {op : AOp} (h : pureOp op = true) : opK op = .plain := by cases op <;> first | rfl | (simp [pureOp] at h)
theorem opK_read {op : AOp} (h : readOp op = true) : opK op = .plain := by cases op <;> first | rfl | (simp [readOp] at h)

theorem opK_lit {op : AOp} (h : isLit op = true) : opK op = .plain := by cases op <;> first | rfl | (simp [isLit] at h)

/-- an operation of class 0 or 1 leaves the memory alone -/
theorem light_spec (E : Env P md C w0) {lt : Bool} {o : Oper} {op : AOp} (hc : clsO lt md o op ≤ 1) {t : List Value} {h h' : AHeap} {v : Value} (e : exec1 C go t h op = some (v, h')) : h' = h := by
  unfold exec1 at e
  by_cases hp : pureOp op = true
  · rw [opK_pure hp] at e
    exact (pureOp_spec hp e).1
  by_cases hr : readOp op = true
  · rw [opK_read hr] at e
    exact readOp_spec hr e
  have hcall : ∃ f l, op = .call f l ∧ md f = true := by
    unfold clsO at hc
    simp only at hc
    have hc' : clsA lt md op ≤ 1 := by
      split at hc
      · omega
      · exact hc
    unfold clsA at hc'
    split at hc'
    · rename_i f l
      refine ⟨f, l, rfl, ?_⟩
      split at hc'
      · assumption
      · omega
    · omega
    · rw [if_neg hp, if_neg hr] at hc'
      split at hc' <;> omega
  obtain ⟨f, l, rfl, hf⟩ := hcall
  obtain ⟨fn, hT, hmode⟩ := E.pure f hf
  simp only [opK, target] at e
  split at e
  · rename_i f' args ht
    obtain ⟨rfl, rfl, _⟩ := okArgs_spec ht
    unfold doCall at e
    rw [hT] at e
    simp only at e
    split at e
    · omega
    · omega
    · split at e
      · split at e
        · cases e; rfl
        · cases e
      · cases e
    · split at e
      · split at e
        · split at e
          · cases e; rfl
          · cases e
        · cases e
      · cases e
  · cases e

theorem pure_spec {lt : Bool} {o : Oper} {op : AOp} (hc : clsO lt md o op = 0) {t : List Value} {h h' : AHeap} {v : Value} (e : exec1 C go t h op = some (v, h')) : ∀ h2, exec1 C go t h2 op = some (v, h2) := by
  have hp : pureOp op = true := by
    unfold clsO at hc
    simp only at hc
    have hc' : clsA lt md op = 0 := by
      split at hc
      · omega
      · exact hc
    unfold clsA at hc'
    split at hc'
    · split at hc' <;> omega
    · omega
    · split at hc'
      · assumption
      · split at hc'
        · omega
        · split at hc' <;> omega
  unfold exec1 at e ⊢
  rw [opK_pure hp] at e ⊢
  exact (pureOp_spec hp e).2

theorem alloc_spec {lt : Bool} {o : Oper} {op : AOp} (hc : clsO lt md o op = 3) : isAlloc o.op = true ∧ isLit op = true := by
  unfold clsO at hc
  simp only at hc
  split at hc
  · cases hc
  · rename_i hn
    simp only [hc, BEq.rfl, Bool.true_and, Bool.not_eq_true', Bool.not_eq_false] at hn
    refine ⟨by simpa using hn, ?_⟩
    unfold clsA at hc
    split at hc
    · split at hc <;> cases hc
    · rfl
    · split at hc
      · cases hc
      · split at hc
        · cases hc
        · split at hc
          · rename_i h
            simp only [Bool.and_eq_true] at h
            exact h.2
          · cases hc
end
end Go.Ab

/- Drawn regions, the walk. -/
namespace Go.Ab

section
variable {P : Program} {md : FuncId → Bool} {C : Ctx} {w0 : World} {go : K}

/-- what a drawn region's run is -/
structure Dr (P : Program) (md : FuncId → Bool) (C : Ctx) (go : K) (nt : Nat) (d : DI) (tr : List Tr) (t : List Value) (tf : List Value) (h hf : AHeap) : Prop where
  ok : DOk d
  c : ∀ i, i < d.n → ∃ o, d.ops[i]? = some o ∧ d.c[i]? = some (cOper P d.ops nt o) ∧ d.cl.getD i 2 = clsO d.lt md o (cOper P d.ops nt o).op
  len : tr.length = d.n
  h0 : stage tr hf 0 = h
  tfe : tf = envOf tr t
  x : ∀ i, i < d.n → ∀ o, d.ops[i]? = some o → ∃ x, tr[d.p i]? = some x ∧ x.o = { cOper P d.ops nt o with un := d.un i } ∧ stage tr hf (d.p i) = x.h ∧ stage tr hf (d.p i + 1) = x.h' ∧
    (if wantedA x.t x.o.guard then resOk (pdst x.o) (exec1 C go x.t x.h x.o.op) else some (.tuple #[], x.h)) = some (x.v, x.h') ∧ x.t = envOf (tr.take (d.p i)) t
  chk : ∀ x ∈ tr, ∀ j ∈ x.o.un, chk C go x (stage tr hf j) = true

variable {nt : Nat} {d : DI} {tr : List Tr} {t tf : List Value} {h hf : AHeap}

theorem resOk_some {dst : Option Nat} {r : Res} {v : Value} {h' : AHeap} (e : resOk dst r = some (v, h')) : r = some (v, h') ∧ (dst.isSome = true → v ≠ .tuple #[]) := by
  cases r with
  | none => cases e
  | some q =>
    obtain ⟨v1, h1⟩ := q
    simp only [resOk] at e
    split at e
    · cases e
    · rename_i hn
      cases e
      refine ⟨rfl, fun hd hv => hn ?_⟩
      rw [hd, isUnd_iff.2 hv]; rfl

/-- a step of class 0 or 1 leaves the memory -/
theorem Dr.light (E : Env P md C w0) (D : Dr P md C go nt d tr t tf h hf) {i : Nat} (hi : i < d.n) (hc : d.cl.getD i 2 ≤ 1) : stage tr hf (d.p i + 1) = stage tr hf (d.p i) := by
  obtain ⟨o, ho, hco, hcl⟩ := D.c i hi
  obtain ⟨x, hx, hxo, s0, s1, he, ht⟩ := D.x i hi o ho
  rw [s0, s1]
  split at he
  · obtain ⟨e1, _⟩ := resOk_some he
    rw [hcl] at hc
    rw [hxo] at e1
    exact light_spec E hc e1
  · simp only [Option.some.injEq, Prod.mk.injEq] at he; exact he.2.symm

theorem Dr.lights (E : Env P md C w0) (D : Dr P md C go nt d tr t tf h hf) {a b : Nat} (hab : a ≤ b) (hb : b ≤ d.n) (hl : d.lightBetween a b = true) : stage tr hf b = stage tr hf a := by
  unfold DI.lightBetween at hl
  simp only [List.all_eq_true, List.mem_range] at hl
  obtain ⟨k, rfl⟩ := Nat.exists_eq_add_of_le hab
  clear hab
  have key : ∀ j, j ≤ k → stage tr hf (a + j) = stage tr hf a := by
    intro j
    induction j with
    | zero => intro _; rfl
    | succ j ih =>
      intro hj
      have hq : a + j < d.n := by omega
      obtain ⟨i, hLi, hi, hpi⟩ := D.ok.Lpos (a + j) hq
      have h1 := hl (a + j) hq
      rw [if_pos (by omega)] at h1
      have hcl : d.cl.getD i 2 ≤ 1 := by
        have : d.L.getD (a + j) 0 = i := by simp [List.getD, hLi]
        rw [this] at h1
        simpa using h1
      have := D.light E hi hcl
      rw [hpi] at this
      rw [← Nat.add_assoc, this, ih (by omega)]
  exact key k (Nat.le_refl _)

def Late (d : DI) (tr : List Tr) (h : AHeap) (m1 : Mu) (S : AHeap) (x : Tr) : Prop :=
  h.bs.length ≤ x.h.bs.length ∧ S.bs[x.h.bs.length]? = x.h'.bs[x.h.bs.length]? ∧ ∀ s, m1 x.h.bs.length s = none

/-- the way through operations that are not heavy -/
theorem Dr.adv (E : Env P md C w0) (D : Dr P md C go nt d tr t tf h hf) {m m1 : Mu} {w : World} (hlo : h.lo ≤ h.bs.length) {p : Nat} : ∀ {q : Nat}, p ≤ q → q ≤ d.n →
    (∀ i, i < d.n → p ≤ d.p i → d.p i < q → d.heavy i = false) → HRel m1 w0 (stage tr hf p) w → Post m h m1 (stage tr hf p) →
    HRel m1 w0 (stage tr hf q) w ∧ Post m h m1 (stage tr hf q) ∧ (∀ b, b < (stage tr hf p).bs.length → (stage tr hf q).bs[b]? = (stage tr hf p).bs[b]?) ∧
      (∀ r, p ≤ r → r ≤ q → (stage tr hf r).bs.length ≤ (stage tr hf q).bs.length) ∧
      (∀ i x, i < d.n → p ≤ d.p i → d.p i < q → d.cl.getD i 2 = 3 → tr[d.p i]? = some x → wantedA x.t x.o.guard = true → Late d tr h m1 (stage tr hf q) x) := by
  intro q hpq
  induction hpq with
  | refl =>
    intro _ _ H hp
    exact ⟨H, hp, fun _ _ => rfl, fun r h1 h2 => by rw [Nat.le_antisymm h2 h1]; exact Nat.le_refl _, fun i x _ h1 h2 => absurd h2 (by omega)⟩
  | @step q hpq ih =>
    intro hq hh H hp
    obtain ⟨H1, p1, b1, l1, L1⟩ := ih (by omega) (fun i hi h1 h2 => hh i hi h1 (by omega)) H hp
    obtain ⟨i, hLi, hi, hpi⟩ := D.ok.Lpos q (by omega)
    have hnh := hh i hi (by rw [hpi]; exact hpq) (by omega)
    obtain ⟨o, ho, hco, hcl⟩ := D.c i hi
    obtain ⟨x, hx, hxo, s0, s1, he, ht⟩ := D.x i hi o ho
    rw [hpi] at s0 s1
    have same : stage tr hf (q + 1) = stage tr hf q → (wantedA x.t x.o.guard = true → d.cl.getD i 2 ≠ 3) → _ := fun hs hw3 =>
      (show HRel m1 w0 (stage tr hf (q + 1)) w ∧ Post m h m1 (stage tr hf (q + 1)) ∧ (∀ b, b < (stage tr hf p).bs.length → (stage tr hf (q + 1)).bs[b]? = (stage tr hf p).bs[b]?) ∧
      (∀ r, p ≤ r → r ≤ q + 1 → (stage tr hf r).bs.length ≤ (stage tr hf (q + 1)).bs.length) ∧
      (∀ i x, i < d.n → p ≤ d.p i → d.p i < q + 1 → d.cl.getD i 2 = 3 → tr[d.p i]? = some x → wantedA x.t x.o.guard = true → Late d tr h m1 (stage tr hf (q + 1)) x) by
        rw [hs]
        refine ⟨H1, p1, b1, fun r h1 h2 => ?_, fun i' x' hi' h1 h2 hc3 hx' hw => ?_⟩
        · rcases Nat.lt_or_ge q r with hr | hr
          · have : r = q + 1 := by omega
            rw [this, hs]; exact Nat.le_refl _
          · exact l1 r h1 hr
        · rcases Nat.lt_or_ge (d.p i') q with hr | hr
          · exact L1 i' x' hi' h1 hr hc3 hx' hw
          · have hpi' : d.p i' = q := by omega
            have : i' = i := by
              have e1 := (D.ok.posL i' hi').2
              rw [hpi', hLi] at e1
              exact (Option.some.inj e1).symm
            subst this
            rw [hx] at hx'
            cases hx'
            exact absurd hc3 (hw3 hw))
    by_cases hc1 : d.cl.getD i 2 ≤ 1
    · have hl := D.light E hi hc1
      rw [hpi] at hl
      exact same hl fun _ => by omega
    · by_cases hw : wantedA x.t x.o.guard = true
      · have hc3 : d.cl.getD i 2 = 3 := by
          have h2 : d.cl.getD i 2 ≠ 2 := fun h2 => by
            unfold DI.heavy at hnh
            rw [h2] at hnh
            simp at hnh
          have hle : clsO d.lt md o (cOper P d.ops nt o).op ≤ 3 := by
            unfold clsO
            simp only
            split
            · omega
            · unfold clsA
              (repeat' split) <;> omega
          omega
        have hc3' := hc3
        rw [hcl] at hc3'
        obtain ⟨ha, hz⟩ := alloc_spec hc3'
        rw [if_pos hw] at he
        obtain ⟨e1, _⟩ := resOk_some he
        have hxz : x.o.op = (cOper P d.ops nt o).op := by rw [hxo]
        rw [hxz] at e1
        have hpl : opK (cOper P d.ops nt o).op = .plain := opK_lit hz
        unfold exec1 at e1
        rw [hpl] at e1
        simp only at e1
        obtain ⟨blk, ev, eh, _⟩ := lit_exec hz e1
        · have hst : stage tr hf (q + 1) = (stage tr hf q).push blk := by rw [s1, eh, s0]
          have hbs : ∀ b, b < (stage tr hf q).bs.length → (stage tr hf (q + 1)).bs[b]? = (stage tr hf q).bs[b]? := fun b hb => by
            rw [hst]; simp [AHeap.push, List.getElem?_append_left hb]
          have hl1 : (stage tr hf (q + 1)).bs.length = (stage tr hf q).bs.length + 1 := by rw [hst]; simp [AHeap.push]
          refine ⟨by rw [hst]; exact H1.pushU _, by rw [hst]; exact p1.pushU hlo _, fun b hb => ?_, fun r h1 h2 => ?_, fun i' x' hi' h1 h2 hc3' hx' hw' => ?_⟩
          · rw [hbs b (Nat.lt_of_lt_of_le hb (l1 p (Nat.le_refl _) hpq)), b1 b hb]
          · rcases Nat.lt_or_ge q r with hr | hr
            · have : r = q + 1 := by omega
              rw [this]; exact Nat.le_refl _
            · have := l1 r h1 hr
              exact Nat.le_trans this (by rw [hl1]; exact Nat.le_succ _)
          · rcases Nat.lt_or_ge (d.p i') q with hr | hr
            · obtain ⟨k1, k2, k3⟩ := L1 i' x' hi' h1 hr hc3' hx' hw'
              refine ⟨k1, ?_, k3⟩
              rw [hbs _ ?_, k2]
              -- the block is there
              rcases Nat.lt_or_ge x'.h.bs.length (stage tr hf q).bs.length with hlt | hge
              · exact hlt
              · exfalso
                obtain ⟨o', ho', _, hcl'⟩ := D.c i' hi'
                obtain ⟨x2, hx2, hxo2, s02, s12, he2, _⟩ := D.x i' hi' o' ho'
                rw [hx'] at hx2
                cases hx2
                rw [hcl'] at hc3'
                obtain ⟨_, hz'⟩ := alloc_spec hc3'
                rw [if_pos hw'] at he2
                obtain ⟨e2, _⟩ := resOk_some he2
                have hxz' : x'.o.op = (cOper P d.ops nt o').op := by rw [hxo2]
                rw [hxz'] at e2
                unfold exec1 at e2
                rw [opK_lit hz'] at e2
                simp only at e2
                obtain ⟨blk', _, eh', _⟩ := lit_exec hz' e2
                have := l1 (d.p i' + 1) (by omega) (by omega)
                rw [s12, eh'] at this
                simp [AHeap.push] at this
                omega
            · have hpi' : d.p i' = q := by omega
              have : i' = i := by
                have e1 := (D.ok.posL i' hi').2
                rw [hpi', hLi] at e1
                exact (Option.some.inj e1).symm
              subst this
              rw [hx] at hx'
              cases hx'
              refine ⟨by rw [← s0]; exact p1.len, by rw [s1], fun s => ?_⟩
              rw [← s0]
              exact H1.fresh s
      · refine same ?_ fun hw' => absurd hw' hw
        rw [if_neg hw] at he
        simp only [Option.some.injEq, Prod.mk.injEq] at he
        rw [s1, s0]; exact he.2.symm
end
end Go.Ab

/- Drawn regions: what holds between their operations. -/
namespace Go.Ab

section
variable {P : Program} {md : FuncId → Bool} {C : Ctx} {w0 : World} {go : K}
variable {nt : Nat} {d : DI} {tr : List Tr} {t tf : List Value} {h hf : AHeap} {m : Mu} {a0 : Act}

def Exd (l : Array Bool) (i : Nat) : Prop := l.getD i false = true

structure Inv (w0 : World) (d : DI) (tr : List Tr) (t : List Value) (h hf : AHeap) (m : Mu) (a0 : Act) (l : Array Bool) (m1 : Mu) (t1 : List Value) (J : Nat) (a : Act) (w : World) : Prop where
  size : l.size = d.n
  closed : ∀ i j, i < d.n → j < d.n → Exd l i → d.A i j = true → Exd l j
  Jle : J ≤ d.n
  before : ∀ i, i < d.n → d.heavy i = true → d.p i < J → Exd l i
  at_ : ∀ i, i < d.n → d.p i = J → d.heavy i = true ∧ ¬ Exd l i
  H : HRel m1 w0 (stage tr hf J) w
  P : Post m h m1 (stage tr hf J)
  T : TRel m1 t1 a.tmps
  sz : a.tmps.size = a0.tmps.size
  df : a.defers = a0.defers
  env0 : ∀ y, (∀ i, i < d.n → Exd l i → d.dst i ≠ some y) → tg t1 y = tg t y
  env1 : ∀ i x y, i < d.n → Exd l i → tr[d.p i]? = some x → x.o.dst = some y → tg t1 y = x.v
  late : ∀ i x, i < d.n → ¬ Exd l i → d.cl.getD i 2 = 3 → d.p i < J → tr[d.p i]? = some x → wantedA x.t x.o.guard = true → Late d tr h m1 (stage tr hf J) x
  mono : ∀ r r', r ≤ r' → r' ≤ J → (stage tr hf r).bs.length ≤ (stage tr hf r').bs.length

theorem exd_set {l : Array Bool} {i : Nat} (hi : i < l.size) (j : Nat) : Exd (l.setIfInBounds i true) j ↔ j = i ∨ Exd l j := by
  unfold Exd
  rw [Array.getD_eq_getD_getElem?, Array.getD_eq_getD_getElem?, Array.getElem?_setIfInBounds]
  by_cases h : i = j
  · subst h; simp [hi]
  · simp only [h, if_false]
    constructor
    · exact .inr
    · rintro (rfl | h')
      · exact absurd rfl h
      · exact h'

theorem Dr.dst (D : Dr P md C go nt d tr t tf h hf) {q : Nat} {x : Tr} (hx : tr[q]? = some x) : ∃ i, i < d.n ∧ d.p i = q ∧ x.o.dst = d.dst i := by
  have hq : q < d.n := by
    rcases Nat.lt_or_ge q tr.length with h | h
    · rw [← D.len]; exact h
    · rw [List.getElem?_eq_none h] at hx; cases hx
  obtain ⟨i, hLi, hi, hpi⟩ := D.ok.Lpos q hq
  obtain ⟨o, ho, hco, hcl⟩ := D.c i hi
  obtain ⟨x', hx', hxo, _⟩ := D.x i hi o ho
  rw [hpi, hx] at hx'
  cases hx'
  exact ⟨i, hi, hpi, by rw [hxo]; simp [DI.dst, hco]⟩

theorem edges_ready {l : Array Bool} {o : Oper} (h : ∀ e ∈ o.after, Region.binds .any e = true → l.getD e.on false = true) : ∀ j ∈ edgesOf o, Exd l j := by
  intro j hj
  unfold edgesOf at hj
  obtain ⟨e, he, rfl⟩ := List.mem_map.1 hj
  obtain ⟨h1, h2⟩ := List.mem_filter.1 he
  exact h e (by simpa using h1) h2

/-- what is behind an operation that may run has run -/
theorem Inv.anc (D : Dr P md C go nt d tr t tf h hf) {l : Array Bool} {m1 : Mu} {t1 : List Value} {J : Nat} {a : Act} {w : World} (I : Inv w0 d tr t h hf m a0 l m1 t1 J a w)
    {i : Nat} (hi : i < d.n) {o : Oper} (ho : d.ops[i]? = some o) (hr : ∀ e ∈ o.after, Region.binds .any e = true → l.getD e.on false = true) :
    ∀ j, j < d.n → d.A i j = true → Exd l j := by
  intro j hj hA
  have hgo : d.ops.getD i default = o := by simp [Array.getD_eq_getD_getElem?, ho]
  obtain ⟨_, e, he, hx⟩ := D.ok.anc i j hi hj hA
  have hen := (D.ok.edge i hi e he).1
  rw [hgo] at he
  have hS := edges_ready hr e he
  rcases hx with rfl | hx
  · exact hS
  · exact I.closed e j hen hj hS hx

theorem Inv.agree (D : Dr P md C go nt d tr t tf h hf) {l : Array Bool} {m1 : Mu} {t1 : List Value} {J : Nat} {a : Act} {w : World} (I : Inv w0 d tr t h hf m a0 l m1 t1 J a w)
    {i : Nat} (hi : i < d.n) {o : Oper} (ho : d.ops[i]? = some o) (hn : ¬ Exd l i) (hr : ∀ e ∈ o.after, Region.binds .any e = true → l.getD e.on false = true)
    {x : Tr} (hx : x.t = envOf (tr.take (d.p i)) t) : ∀ y ∈ readsA (cOper P d.ops nt o), tg t1 y = tg x.t y := by
  intro y hy
  obtain ⟨o', ho', hco, _⟩ := D.c i hi
  rw [ho] at ho'
  cases ho'
  rw [hx]
  have notBefore : ∀ k, k < d.n → d.dst k = some y → d.p i ≤ d.p k → tg (envOf (tr.take (d.p i)) t) y = tg t y := by
    intro k hk hdk hp
    refine env_none fun x' hx' hd' => ?_
    obtain ⟨q, hq, rfl⟩ := List.getElem_of_mem hx'
    simp only [List.length_take] at hq
    have hqx : tr[q]? = some (tr.take (d.p i))[q] := by
      rw [List.getElem_take]; exact List.getElem?_eq_getElem _
    obtain ⟨k', hk', hpk', hdk'⟩ := D.dst hqx
    rw [hd'] at hdk'
    have := D.ok.dsts k k' hk hk' y hdk hdk'.symm
    subst this
    omega
  have notRun : ∀ k, k < d.n → d.dst k = some y → ¬ Exd l k → tg t1 y = tg t y := by
    intro k hk hdk hS
    refine I.env0 y fun k' hk' hS' hd' => hS ?_
    rw [D.ok.dsts k k' hk hk' y hdk hd']
    exact hS'
  by_cases hex : ∃ k, k < d.n ∧ d.dst k = some y
  · obtain ⟨k, hk, hdk⟩ := hex
    rcases D.ok.reads i hi _ hco y hy k hk hdk with rfl | hA | hA
    · rw [notRun k hk hdk hn, notBefore k hk hdk (Nat.le_refl _)]
    · have hS := I.anc D hi ho hr k hk hA
      have hp := (D.ok.anc i k hi hk hA).1
      obtain ⟨ok, hok, _, _⟩ := D.c k hk
      obtain ⟨xk, hxk, hxko, _⟩ := D.x k hk ok hok
      obtain ⟨k', hk', hpk', hdk'⟩ := D.dst hxk
      have hkk : k' = k := by
        have e1 := (D.ok.posL k' hk').2
        rw [hpk', (D.ok.posL k hk).2] at e1
        exact (Option.some.inj e1).symm
      subst hkk
      rw [hdk] at hdk'
      rw [I.env1 k' xk y hk hS hxk hdk']
      refine (env_some (q := d.p k') (by rw [List.getElem?_take, if_pos hp]; exact hxk) hdk' (fun q' x' h1 h2 => ?_) t).symm
      have hq' : tr[q']? = some x' := by
        rw [List.getElem?_take] at h1
        split at h1
        · exact h1
        · cases h1
      obtain ⟨k2, hk2, hpk2, hdk2⟩ := D.dst hq'
      rw [h2] at hdk2
      have := D.ok.dsts k' k2 hk hk2 y hdk hdk2.symm
      subst this
      exact hpk2.symm
    · have hS : ¬ Exd l k := fun hS => hn (I.closed k i hk hi hS hA)
      have hp := (D.ok.anc k i hk hi hA).1
      rw [notRun k hk hdk hS, notBefore k hk hdk (by omega)]
  · rw [I.env0 y fun k hk _ hd => hex ⟨k, hk, hd⟩]
    refine (env_none fun x' hx' hd' => ?_).symm
    obtain ⟨q, hq, rfl⟩ := List.getElem_of_mem hx'
    have hqx : tr[q]? = some (tr.take (d.p i))[q] := by
      rw [List.getElem_take]; exact List.getElem?_eq_getElem _
    obtain ⟨k', hk', _, hdk'⟩ := D.dst hqx
    exact hex ⟨k', hk', by rw [← hdk', hd']⟩

/-- what the memory may be when an operation that only reads may run -/
theorem Inv.reader (E : Env P md C w0) (D : Dr P md C go nt d tr t tf h hf) {l : Array Bool} {m1 : Mu} {t1 : List Value} {J : Nat} {a : Act} {w : World} (I : Inv w0 d tr t h hf m a0 l m1 t1 J a w)
    {i : Nat} (hi : i < d.n) (hn : ¬ Exd l i) (hanc : ∀ j, j < d.n → d.A i j = true → Exd l j) (hc : d.cl.getD i 2 = 1) :
    d.p i ≤ J ∧ stage tr hf J = stage tr hf (d.p i) ∨ J ∈ d.un i := by
  have hlt := (D.ok.posL i hi).1
  rcases Nat.lt_or_ge J d.n with hJ | hJ
  · obtain ⟨j, hLj, hj, hpj⟩ := D.ok.Lpos J hJ
    obtain ⟨hhj, hSj⟩ := I.at_ j hj hpj
    cases hs : d.skip i j with
    | false =>
      right
      unfold DI.un
      rw [if_pos (by simpa using hc)]
      refine List.mem_append_left _ ?_
      rw [← hpj]
      exact List.mem_map_of_mem (List.mem_filter.2 ⟨List.mem_range.2 hj, by simp [hhj, hs]⟩)
    | true =>
      left
      unfold DI.skip at hs
      simp only [Bool.or_eq_true, List.any_eq_true, List.mem_range, Bool.and_eq_true, decide_eq_true_eq] at hs
      rcases hs with (hA | ⟨j', hj', ⟨hh', hA1⟩, hA2⟩) | ⟨hlt2, hlb⟩
      · exact absurd (hanc j hj hA) hSj
      · exfalso
        have hp := (D.ok.anc j j' hj hj' hA2).1
        exact hn (I.closed j' i hj' hi (I.before j' hj' hh' (by omega)) hA1)
      · rw [hpj] at hlt2 hlb
        exact ⟨by omega, D.lights E (by omega) (by omega) hlb⟩
  · have hJn : J = d.n := Nat.le_antisymm I.Jle hJ
    subst hJn
    cases hs : d.skipEnd i with
    | false =>
      right
      unfold DI.un
      rw [if_pos (by simpa using hc), hs]
      exact List.mem_append_right _ (by simp)
    | true =>
      left
      unfold DI.skipEnd at hs
      simp only [Bool.or_eq_true, List.any_eq_true, List.mem_range, Bool.and_eq_true] at hs
      rcases hs with ⟨j', hj', hh', hA1⟩ | hlb
      · exfalso
        exact hn (I.closed j' i hj' hi (I.before j' hj' hh' (D.ok.posL j' hj').1) hA1)
      · exact ⟨by omega, D.lights E (by omega) (Nat.le_refl _) hlb⟩

/-- the next heavy operation's place -/
theorem Dr.next (D : Dr P md C go nt d tr t tf h hf) : ∀ (k p : Nat), p + k = d.n → ∃ q, p ≤ q ∧ q ≤ d.n ∧ (∀ i, i < d.n → p ≤ d.p i → d.p i < q → d.heavy i = false) ∧ ∀ i, i < d.n → d.p i = q → d.heavy i = true
  | 0, p, hp => ⟨p, Nat.le_refl _, by omega, fun i hi h1 h2 => by omega, fun i hi h1 => by have := (D.ok.posL i hi).1; omega⟩
  | k + 1, p, hp => by
    obtain ⟨j, hLj, hj, hpj⟩ := D.ok.Lpos p (by omega)
    have uniq : ∀ i, i < d.n → d.p i = p → i = j := fun i hi e => by
      have e1 := (D.ok.posL i hi).2
      rw [e, hLj] at e1
      exact (Option.some.inj e1).symm
    cases hh : d.heavy j with
    | true => exact ⟨p, Nat.le_refl _, by omega, fun i hi h1 h2 => by omega, fun i hi e => by rw [uniq i hi e]; exact hh⟩
    | false =>
      obtain ⟨q, q1, q2, q3, q4⟩ := Dr.next D k (p + 1) (by omega)
      refine ⟨q, by omega, q2, fun i hi h1 h2 => ?_, q4⟩
      rcases Nat.lt_or_ge p (d.p i) with h | h
      · exact q3 i hi (by omega) h2
      · rw [uniq i hi (by omega)]; exact hh

/-- the first memory -/
theorem Dr.start (E : Env P md C w0) (D : Dr P md C go nt d tr t tf h hf) {w : World} (H : HRel m w0 h w) (hT : TRel m t a0.tmps) :
    ∃ J, Inv w0 d tr t h hf m a0 (Array.replicate d.n false) m t J a0 w := by
  obtain ⟨q, q1, q2, q3, q4⟩ := D.next d.n 0 (by omega)
  have hS : ∀ i, ¬ Exd (Array.replicate d.n false) i := fun i => by
    unfold Exd
    rw [Array.getD_eq_getD_getElem?, Array.getElem?_replicate]
    split <;> simp
  obtain ⟨b1, b2, b3, b4, b5⟩ := D.adv E (m1 := m) (w := w) H.lo q1 q2 q3 (by rw [D.h0]; exact H) (by rw [D.h0]; exact Post.refl _ _)
  refine ⟨q, by simp, fun i j _ _ hi => absurd hi (hS i), q2, fun i hi hh hp => ?_, fun i hi hp => ⟨q4 i hi hp, hS i⟩, b1, b2, hT, rfl, rfl, fun _ _ => rfl, fun i x y _ hi => absurd hi (hS i),
    fun i x hi _ hc hp hx hw => b5 i x hi (Nat.zero_le _) hp hc hx hw, fun r r' h1 h2 => ?_⟩
  · rw [q3 i hi (Nat.zero_le _) hp] at hh; cases hh
  · obtain ⟨_, _, _, c4, _⟩ := D.adv E (m1 := m) (w := w) (q := r') H.lo (Nat.zero_le _) (Nat.le_trans h2 q2) (fun i hi _ hp => q3 i hi (Nat.zero_le _) (by omega)) (by rw [D.h0]; exact H) (by rw [D.h0]; exact Post.refl _ _)
    exact c4 r (Nat.zero_le _) h1
end
end Go.Ab

/- Drawn regions: one operation, and the whole. -/
namespace Go.Ab

section
variable {P : Program} {md : FuncId → Bool} {C : Ctx} {w0 : World} {go : K}
variable {nt : Nat} {d : DI} {tr : List Tr} {t tf : List Value} {h hf : AHeap} {m : Mu} {a0 : Act}

theorem Dr.posInj (D : Dr P md C go nt d tr t tf h hf) {i j : Nat} (hi : i < d.n) (hj : j < d.n) (e : d.p i = d.p j) : i = j := by
  have e1 := (D.ok.posL i hi).2
  rw [e, (D.ok.posL j hj).2] at e1
  exact (Option.some.inj e1).symm

theorem Dr.allocLen (D : Dr P md C go nt d tr t tf h hf) {i : Nat} (hi : i < d.n) (hc : d.cl.getD i 2 = 3) {x : Tr} (hx : tr[d.p i]? = some x) (hw : wantedA x.t x.o.guard = true) :
    ∃ blk, isLit x.o.op = true ∧ aexec C x.t x.h x.o.op = some (x.v, x.h.push blk) ∧ x.v = litV x.o.op x.h.bs.length ∧ x.h' = x.h.push blk ∧
      x.h = stage tr hf (d.p i) ∧ x.h' = stage tr hf (d.p i + 1) := by
  obtain ⟨o, ho, hco, hcl⟩ := D.c i hi
  obtain ⟨x', hx', hxo, s0, s1, he, ht⟩ := D.x i hi o ho
  rw [hx] at hx'
  cases hx'
  rw [hcl] at hc
  obtain ⟨ha, hz⟩ := alloc_spec hc
  rw [if_pos hw] at he
  obtain ⟨e1, _⟩ := resOk_some he
  have hxz : x.o.op = (cOper P d.ops nt o).op := by rw [hxo]
  unfold exec1 at e1
  rw [hxz, opK_lit hz] at e1
  simp only at e1
  obtain ⟨blk, ev, eh, _⟩ := lit_exec hz e1
  rw [eh] at e1
  exact ⟨blk, by rw [hxz]; exact hz, by rw [hxz]; exact e1, by rw [hxz]; exact ev, eh, s0.symm, s1.symm⟩

theorem Inv.put (E : Env P md C w0) (D : Dr P md C go nt d tr t tf h hf) (hlo : h.lo ≤ h.bs.length) {l : Array Bool} {m1 : Mu} {t1 : List Value} {J : Nat} {a : Act} {w : World}
    (I : Inv w0 d tr t h hf m a0 l m1 t1 J a w) {i : Nat} (hi : i < d.n) (hn : ¬ Exd l i) (hanc : ∀ j, j < d.n → d.A i j = true → Exd l j) {x : Tr} (hx : tr[d.p i]? = some x)
    {dst : Option Nat} (hdx : x.o.dst = dst) {v' : Value} {w' : World} {m2 : Mu} {K0 : Nat}
    (hK : (d.heavy i = false ∧ K0 = J) ∨ (d.heavy i = true ∧ K0 = J + 1 ∧ d.p i = J ∧ (stage tr hf J).bs.length ≤ (stage tr hf K0).bs.length))
    (h3 : d.cl.getD i 2 = 3 → d.p i < J) (H2 : HRel m2 w0 (stage tr hf K0) w') (P2 : Post m h m2 (stage tr hf K0)) (le : m1.le m2) (V : VRel m2 x.v v')
    (U : dst.isSome = true → x.v = .tuple #[] → v' = undef)
    (keep : ∀ b, b < (stage tr hf J).bs.length → (∀ s, m1 b s = none) → (d.cl.getD i 2 = 3 → wantedA x.t x.o.guard = true → b ≠ x.h.bs.length) →
      (stage tr hf K0).bs[b]? = (stage tr hf J).bs[b]? ∧ ∀ s, m2 b s = none)
    (hdn : ∀ y, dst = some y → y < a.tmps.size) :
    ∃ J', Inv w0 d tr t h hf m a0 (l.setIfInBounds i true) m2 (putD t1 dst x.v) J' (a.put dst v') w' := by
  have hil : i < l.size := by rw [I.size]; exact hi
  have hdi : d.dst i = dst := by
    obtain ⟨i', hi', hp', hd'⟩ := D.dst hx
    rw [D.posInj hi' hi hp'] at hd'
    rw [← hd', hdx]
  -- the next place
  have hq : ∃ q, K0 ≤ q ∧ q ≤ d.n ∧ (∀ i, i < d.n → K0 ≤ d.p i → d.p i < q → d.heavy i = false) ∧ (∀ i', i' < d.n → d.p i' = q → d.heavy i' = true ∧ ¬ Exd (l.setIfInBounds i true) i') ∧ (K0 = J → q = J) := by
    rcases hK with ⟨hh, rfl⟩ | ⟨hh, rfl, hpi, _⟩
    · refine ⟨K0, Nat.le_refl _, I.Jle, fun _ _ h1 h2 => by omega, fun i' hi' hp => ?_, fun _ => rfl⟩
      obtain ⟨k1, k2⟩ := I.at_ i' hi' hp
      refine ⟨k1, fun hS => ?_⟩
      rcases (exd_set hil i').1 hS with rfl | hS
      · rw [hh] at k1; cases k1
      · exact k2 hS
    · have hJ : J < d.n := by rw [← hpi]; exact (D.ok.posL i hi).1
      obtain ⟨q, q1, q2, q3, q4⟩ := D.next (d.n - (J + 1)) (J + 1) (by omega)
      refine ⟨q, q1, q2, q3, fun i' hi' hp => ⟨q4 i' hi' hp, fun hS => ?_⟩, fun e => by omega⟩
      rcases (exd_set hil i').1 hS with rfl | hS
      · omega
      · rcases D.ok.heavy i i' hi hi' hh (q4 i' hi' hp) with rfl | hA | hA
        · omega
        · have := (D.ok.anc i i' hi hi' hA).1; omega
        · exact hn (I.closed i' i hi' hi hS hA)
  obtain ⟨q, q1, q2, q3, q4, q5⟩ := hq
  have hKJ : J ≤ K0 := by rcases hK with ⟨_, h⟩ | ⟨_, h, _⟩ <;> omega
  have hlen : (stage tr hf J).bs.length ≤ (stage tr hf K0).bs.length := by
    rcases hK with ⟨_, h⟩ | ⟨_, _, _, h⟩
    · rw [h]; exact Nat.le_refl _
    · exact h
  obtain ⟨b1, b2, b3, b4, b5⟩ := D.adv E hlo q1 q2 q3 H2 P2
  refine ⟨q, by simp [I.size], fun i' j' hi' hj' hS hA => ?_, q2, fun i' hi' hh hp => ?_, q4, b1, b2, ?_, ?_, ?_, fun y hy => ?_, fun i' x' y hi' hS hx' hd' => ?_, fun i' x' hi' hS hc hp hx' hw' => ?_, fun r r' hr1 hr2 => ?_⟩
  · rw [exd_set hil] at hS ⊢
    rcases hS with rfl | hS
    · exact .inr (hanc j' hj' hA)
    · exact .inr (I.closed i' j' hi' hj' hS hA)
  · rw [exd_set hil]
    rcases Nat.lt_or_ge (d.p i') J with hlt | hge
    · exact .inr (I.before i' hi' hh hlt)
    · rcases hK with ⟨_, rfl⟩ | ⟨_, rfl, hpi, _⟩
      · rw [q3 i' hi' hge hp] at hh; cases hh
      · rcases Nat.lt_or_ge J (d.p i') with h | h
        · rw [q3 i' hi' h hp] at hh; cases hh
        · exact .inl (D.posInj hi' hi (by omega))
  · exact (I.T.mono le).put hdn V U
  · rw [put_size]; exact I.sz
  · rw [put_defers]; exact I.df
  · rw [tg_putD, if_neg ?_]
    · exact I.env0 y fun i' hi' hS => hy i' hi' ((exd_set hil i').2 (.inr hS))
    · intro e
      exact hy i hi ((exd_set hil i).2 (.inl rfl)) (by rw [hdi, e])
  · rw [tg_putD]
    rcases (exd_set hil i').1 hS with rfl | hS'
    · rw [hx] at hx'
      cases hx'
      rw [if_pos (by rw [← hdx, hd'])]
    · rw [if_neg ?_]
      · exact I.env1 i' x' y hi' hS' hx' hd'
      · intro e
        have hii : i ≠ i' := fun e => by subst e; exact hn hS'
        obtain ⟨i2, hi2, hp2, hd2⟩ := D.dst hx'
        rw [D.posInj hi2 hi' hp2] at hd2
        exact hii (D.ok.dsts i i' hi hi' y (by rw [hdi, e]) (by rw [← hd2, hd']))
  · have hS' : ¬ Exd l i' ∧ i' ≠ i := ⟨fun h => hS ((exd_set hil i').2 (.inr h)), fun h => hS ((exd_set hil i').2 (.inl h))⟩
    obtain ⟨_, _, _, _, hz1, hz2, hz3⟩ := D.allocLen hi' hc hx' hw'
    rcases Nat.lt_or_ge (d.p i') J with hlt | hge
    · obtain ⟨k1, k2, k3⟩ := I.late i' x' hi' hS'.1 hc hlt hx' hw'
      have hlen' : x'.h.bs.length + 1 = (stage tr hf (d.p i' + 1)).bs.length := by rw [← hz3, hz1]; simp [AHeap.push]
      have hb : x'.h.bs.length < (stage tr hf J).bs.length := by
        have := I.mono (d.p i' + 1) J (by omega) (Nat.le_refl _)
        omega
      have hne : d.cl.getD i 2 = 3 → wantedA x.t x.o.guard = true → x'.h.bs.length ≠ x.h.bs.length := by
        intro hc3 hw3
        obtain ⟨_, _, _, _, y1, y2, y3⟩ := D.allocLen hi hc3 hx hw3
        have hlen2 : x.h.bs.length + 1 = (stage tr hf (d.p i + 1)).bs.length := by rw [← y3, y1]; simp [AHeap.push]
        have hp := h3 hc3
        rcases Nat.lt_trichotomy (d.p i) (d.p i') with h | h | h
        · have := I.mono (d.p i + 1) (d.p i') (by omega) (by omega)
          rw [← hz2] at this
          omega
        · exact absurd (D.posInj hi hi' h).symm hS'.2
        · have := I.mono (d.p i' + 1) (d.p i) (by omega) (by omega)
          rw [← y2] at this
          omega
      obtain ⟨g1, g2⟩ := keep _ hb k3 hne
      refine ⟨k1, ?_, g2⟩
      rw [b3 _ (Nat.lt_of_lt_of_le hb hlen), g1, k2]
    · have hge' : K0 ≤ d.p i' := by
        rcases hK with ⟨_, rfl⟩ | ⟨_, rfl, hpi, _⟩
        · exact hge
        · rcases Nat.lt_or_ge J (d.p i') with h | h
          · exact h
          · exact absurd (D.posInj hi' hi (by omega)) hS'.2
      exact b5 i' x' hi' hge' hp hc hx' hw'
  · rcases Nat.lt_or_ge J r' with h | h
    · have hK' : K0 ≤ r' := by rcases hK with ⟨_, h⟩ | ⟨_, h, _⟩ <;> omega
      obtain ⟨_, _, _, c4, _⟩ := D.adv E (q := r') hlo hK' (Nat.le_trans hr2 q2) (fun i hi h1 h2 => q3 i hi h1 (by omega)) H2 P2
      rcases Nat.lt_or_ge r K0 with hr | hr
      · have : r ≤ J := by
          rcases hK with ⟨_, h⟩ | ⟨_, h, _⟩
          · omega
          · omega
        exact Nat.le_trans (I.mono r J this (Nat.le_refl _)) (Nat.le_trans hlen (c4 K0 (Nat.le_refl _) hK'))
      · exact c4 r hr hr1
    · exact I.mono r r' hr1 h

def drawPost (w0 : World) (m : Mu) (h : AHeap) (a0 : Act) (t' : List Value) (h' : AHeap) : Exit → Act → World → Prop
  | .normal, a', w' => ∃ m', HRel m' w0 h' w' ∧ Post m h m' h' ∧ TRel m' t' a'.tmps ∧ a'.tmps.size = a0.tmps.size ∧ a'.defers = a0.defers
  | _, _, _ => False

theorem Inv.step (E : Env P md C w0) (S : ∀ w1, Env P md C w1 → SOk P md C w1 go) (N : NoRd go) (D : Dr P md C go nt d tr t tf h hf) (hlo : h.lo ≤ h.bs.length) (hnt : nt ≤ a0.tmps.size) {l : Array Bool} {m1 : Mu} {t1 : List Value} {J : Nat}
    {a : Act} {w : World} (I : Inv w0 d tr t h hf m a0 l m1 t1 J a w) {i : Nat} (hi : i ∈ Region.ready .any d.ops l) {Q : Exit → Act → World → Prop} :
    wpOp P d.ops Q i (fun a' w' => ∃ m2 t2 J', Inv w0 d tr t h hf m a0 (l.setIfInBounds i true) m2 t2 J' a' w') a w := by
  obtain ⟨hn0, o, ho, hr⟩ := mem_ready.1 hi
  have hi : i < d.n := by rw [← D.ok.lenO]; exact (Array.getElem?_eq_some_iff.1 ho).1
  have hn : ¬ Exd l i := by
    have hil : i < l.size := by rw [I.size]; exact hi
    unfold Exd
    rw [Array.getD_eq_getD_getElem?, Array.getElem?_eq_getElem hil] at hn0 ⊢
    simpa using hn0
  have hanc := I.anc D hi ho hr
  obtain ⟨o', ho', hco, hcl⟩ := D.c i hi
  rw [ho] at ho'
  cases ho'
  obtain ⟨x, hx, hxo, s0, s1, he, ht⟩ := D.x i hi o ho
  have hag := I.agree D hi ho hn hr ht
  -- where a heavy one stands
  have hheavy : d.heavy i = true → d.p i = J := by
    intro hh
    rcases Nat.lt_trichotomy (d.p i) J with hlt | heq | hgt
    · exact absurd (I.before i hi hh hlt) hn
    · exact heq
    · exfalso
      have hJ : J < d.n := Nat.lt_trans hgt (D.ok.posL i hi).1
      obtain ⟨j, hLj, hj, hpj⟩ := D.ok.Lpos J hJ
      obtain ⟨k1, k2⟩ := I.at_ j hj hpj
      rcases D.ok.heavy i j hi hj hh k1 with rfl | hA | hA
      · omega
      · exact k2 (hanc j hj hA)
      · have := (D.ok.anc j i hj hi hA).1; omega
  have halloc : d.cl.getD i 2 = 3 → d.p i < J := by
    intro hc3
    rcases Nat.lt_or_ge (d.p i) J with hlt | hge
    · exact hlt
    · exfalso
      have hJ : J < d.n := Nat.lt_of_le_of_lt hge (D.ok.posL i hi).1
      obtain ⟨j, hLj, hj, hpj⟩ := D.ok.Lpos J hJ
      obtain ⟨k1, k2⟩ := I.at_ j hj hpj
      rcases Nat.lt_or_ge J (d.p i) with h | h
      · exact k2 (hanc j hj (D.ok.alloc i hi hc3 j hj k1 (by omega)))
      · have := D.posInj hi hj (by omega)
        subst this
        unfold DI.heavy at k1
        rw [hc3] at k1
        cases k1
  rcases cOper_cases (P := P) d.ops nt o with hbad | ⟨g, hg, hdst, hgood⟩
  · exfalso
    rw [hbad] at hxo
    rw [hxo] at he
    simp [badOper, wantedA, exec1, opK, aexec, resOk] at he
  · have hxdst : x.o.dst = o.dst := by rw [hxo, hgood]
    have hxop : x.o.op = cOp P o := by rw [hxo, hgood]
    have hxg : x.o.guard = g := by rw [hxo, hgood]
    have hwant : wantedA x.t x.o.guard = Region.wanted o (yielded d.ops a.tmps) := by
      rw [← wantedA_spec I.T (by rw [I.sz]; exact hnt) hg, hxg]
      cases g with
      | none => rfl
      | some gw =>
        obtain ⟨g1, w1⟩ := gw
        simp only [wantedA]
        rw [hag g1 (by rw [hgood]; simp [readsA])]
    have hdn : ∀ y, o.dst = some y → y < a.tmps.size := fun y hy => Nat.lt_of_lt_of_le (hdst y hy) (by rw [I.sz]; exact hnt)
    have hargs : ∀ A ∈ (cOp P o).args, A.ev x.t = A.ev t1 := by
      intro A hA
      cases A with
      | cst v => rfl
      | tmp y =>
        refine (hag y ?_).symm
        rw [hgood]
        refine List.mem_append_right _ ?_
        have : ∀ L : List AArg, AArg.tmp y ∈ L → y ∈ tmpsOf L := by
          intro L
          induction L with
          | nil => intro hz; simp at hz
          | cons z L ih =>
            intro hz
            rcases List.mem_cons.1 hz with rfl | hz'
            · simp [tmpsOf]
            · have := ih hz'
              cases z <;> simp [tmpsOf, this]
        exact this _ hA
    unfold wpOp
    simp only [ho]
    by_cases hw : Region.wanted o (yielded d.ops a.tmps) = true
    · rw [if_pos hw]
      left
      rw [hwant, if_pos hw] at he
      obtain ⟨e1, hund⟩ := resOk_some he
      rw [hxop] at e1
      have hund' : opK (cOp P o) = .plain → o.dst.isSome = true → x.v ≠ .tuple #[] := fun hk hd => hund (by unfold pdst; rw [hxop, hk]; simp only; rw [hxdst]; exact hd)
      have U : ∀ v' : Value, (opK (cOp P o) ≠ .plain → x.v = .tuple #[] → v' = undef) → o.dst.isSome = true → x.v = .tuple #[] → v' = undef := fun v' hv h1 h2 => by
        by_cases hk : opK (cOp P o) = .plain
        · exact absurd h2 (hund' hk h1)
        · exact hv hk h2
      have hclo : d.cl.getD i 2 = clsO d.lt md o (cOp P o) := by rw [hcl, hgood]
      by_cases hc3 : d.cl.getD i 2 = 3
      · have hp := halloc hc3
        have hw' : wantedA x.t x.o.guard = true := by rw [hwant]; exact hw
        obtain ⟨blk, zl, ze, zv, z1, z2, z3⟩ := D.allocLen hi hc3 hx hw'
        obtain ⟨k1, k2, k3⟩ := I.late i x hi hn hc3 hp hx hw'
        have hblk : (stage tr hf J).bs[x.h.bs.length]? = some blk := by rw [k2, z1]; simp [AHeap.push]
        rw [hclo] at hc3
        obtain ⟨v', w', sz, r1, r2, r3, r4⟩ := late_lit (P := P) (alloc_spec hc3).1 hxop.symm zl I.T.ev I.H ((lit_exec zl ze).choose_spec.2.2 t1 x.h |>.trans (by have hb := (lit_exec zl ze).choose_spec.2.1; rw [← hb])) hblk k3
        rw [← hclo] at hc3
        unfold Oper.wp
        rw [r1]
        simp only [Oper.upon]
        have hh : d.heavy i = false := by unfold DI.heavy; rw [hc3]; rfl
        obtain ⟨J', I'⟩ := I.put E D hlo hi hn hanc hx hxdst (v' := v') (w' := w') (m2 := m1.set x.h.bs.length 0 (w.heap.size, sz, 0)) (K0 := J) (.inl ⟨hh, rfl⟩) (fun _ => hp) r2
          (by
            refine ⟨fun b s y hy => r3 _ _ _ (I.P.le _ _ _ hy), I.P.len, I.P.lo, fun b hb => ?_, fun b hb hu => ?_⟩
            · obtain ⟨p1, p2⟩ := I.P.prot b hb
              refine ⟨p1, fun s => ?_⟩
              unfold Mu.set
              rw [if_neg (fun c => by have := c.1; omega)]
              exact p2 s
            · obtain ⟨p1, p2⟩ := I.P.unm b hb hu
              refine ⟨p1, fun s => ?_⟩
              unfold Mu.set
              rw [if_neg (fun c => by have := c.1; omega)]
              exact p2 s)
          r3 (by rw [zv]; exact r4) (fun _ h2 => by rw [zv] at h2; exact absurd h2 (litV_ne _ _))
          (fun b hb hu hne => ⟨rfl, fun s => by
            unfold Mu.set
            rw [if_neg (fun c => hne hc3 hw' c.1)]
            exact hu s⟩)
          hdn
        exact ⟨_, _, J', I'⟩
      · -- exec at the memory that stands
        have hex : ∃ K0, exec1 C go t1 (stage tr hf J) (cOp P o) = some (x.v, stage tr hf K0) ∧ ((d.heavy i = false ∧ K0 = J) ∨ (d.heavy i = true ∧ K0 = J + 1 ∧ d.p i = J)) := by
          rw [← exec1_congr hargs]
          by_cases hc2 : d.heavy i = true
          · have hp := hheavy hc2
            refine ⟨J + 1, ?_, .inr ⟨hc2, rfl, hp⟩⟩
            rw [← hp, s0, s1]; exact e1
          · have hcle : d.cl.getD i 2 ≤ 1 := by
              have h2 : d.cl.getD i 2 ≠ 2 := fun h2 => hc2 (by unfold DI.heavy; rw [h2]; rfl)
              have hle : clsO d.lt md o (cOp P o) ≤ 3 := by
                unfold clsO
                simp only
                split
                · omega
                · unfold clsA
                  (repeat' split) <;> omega
              omega
            refine ⟨J, ?_, .inl ⟨by simpa using hc2, rfl⟩⟩
            rcases Nat.lt_or_ge (d.cl.getD i 2) 1 with h | h
            · exact pure_spec (o := o) (by rw [← hclo]; omega) e1 _
            · have hc1 : d.cl.getD i 2 = 1 := by omega
              rcases I.reader E D hi hn hanc hc1 with ⟨_, hst⟩ | hun
              · rw [hst]
                have hl := D.light E hi hcle
                rw [s1, s0] at hl
                rw [s0, e1, hl]
              · have hck := D.chk x (List.mem_of_getElem? hx) J (by rw [hxo]; exact hun)
                unfold Go.Ab.chk at hck
                rw [hwant, if_pos hw, hxop] at hck
                cases hx2 : exec1 C go x.t (stage tr hf J) (cOp P o) with
                | none => rw [hx2] at hck; cases hck
                | some r =>
                  obtain ⟨v2, h2⟩ := r
                  rw [hx2] at hck
                  rw [vb_eq _ _ hck, light_spec E (o := o) (by rw [← hclo]; exact hcle) hx2]
        obtain ⟨K0, hex, hK⟩ := hex
        have hup := oper_sim E S N I.T I.H hex
        refine hup.upon fun v' w' hR => ?_
        obtain ⟨m2, r1, r2, r3, r4⟩ := hR
        obtain ⟨J', I'⟩ := I.put E D hlo hi hn hanc hx hxdst (v' := v') (w' := w') (m2 := m2) (K0 := K0)
          (hK.imp id fun ⟨k1, k2, k3⟩ => ⟨k1, k2, k3, r2.len⟩) halloc r1 (I.P.trans r2) r2.le r3 (U v' r4) (fun b hb hu _ => r2.unm b hb hu) hdn
        exact ⟨_, _, J', I'⟩
    · rw [if_neg hw]
      rw [hwant, if_neg hw] at he
      simp only [Option.some.injEq, Prod.mk.injEq] at he
      obtain ⟨ev, eh⟩ := he
      have hK : ∃ K0, ((d.heavy i = false ∧ K0 = J) ∨ (d.heavy i = true ∧ K0 = J + 1 ∧ d.p i = J)) ∧ stage tr hf K0 = stage tr hf J := by
        by_cases hc2 : d.heavy i = true
        · have hp := hheavy hc2
          refine ⟨J + 1, .inr ⟨hc2, rfl, hp⟩, ?_⟩
          rw [← hp, s0, s1]; exact eh.symm
        · exact ⟨J, .inl ⟨by simpa using hc2, rfl⟩, rfl⟩
      obtain ⟨K0, hK, hst⟩ := hK
      obtain ⟨J', I'⟩ := I.put E D hlo hi hn hanc hx hxdst (v' := undef) (w' := w) (m2 := m1) (K0 := K0)
        (hK.imp id fun ⟨k1, k2, k3⟩ => ⟨k1, k2, k3, by rw [hst]; exact Nat.le_refl _⟩) halloc (by rw [hst]; exact I.H) (by rw [hst]; exact I.P) (fun _ _ _ h => h) (by rw [← ev]; exact .any _)
        (fun _ _ => rfl) (fun b hb hu _ => by rw [hst]; exact ⟨rfl, hu⟩) hdn
      exact ⟨_, _, J', I'⟩

/-- all have run, when none is ready -/
theorem Inv.done (D : Dr P md C go nt d tr t tf h hf) {l : Array Bool} (hl : l.size = d.n) (hr : Region.ready .any d.ops l = []) : ∀ i, i < d.n → Exd l i := by
  have key : ∀ k i, i < d.n → d.p i = k → Exd l i := by
    intro k
    induction k using Nat.strongRecOn with
    | _ k ih =>
      intro i hi hp
      obtain ⟨o, ho, _, _⟩ := D.c i hi
      have hgo : d.ops.getD i default = o := by simp [Array.getD_eq_getD_getElem?, ho]
      rcases Classical.em (Exd l i) with h | h
      · exact h
      · exfalso
        have : i ∈ Region.ready .any d.ops l := by
          rw [mem_ready]
          refine ⟨?_, o, ho, fun e he hb => ?_⟩
          · unfold Exd at h
            have hil : i < l.size := by rw [hl]; exact hi
            rw [Array.getD_eq_getD_getElem?, Array.getElem?_eq_getElem hil] at h ⊢
            simpa using h
          · have hmem : e.on ∈ edgesOf (d.ops.getD i default) := by
              rw [hgo]
              exact List.mem_map.2 ⟨e, List.mem_filter.2 ⟨by simpa using he, hb⟩, rfl⟩
            obtain ⟨h1, h2⟩ := D.ok.edge i hi e.on hmem
            exact ih (d.p e.on) (by omega) e.on h1 rfl
        rw [hr] at this
        simp at this
  exact fun i hi => key _ i hi rfl

theorem Inv.last (D : Dr P md C go nt d tr t tf h hf) {l : Array Bool} {m1 : Mu} {t1 : List Value} {J : Nat} {a : Act} {w : World} (I : Inv w0 d tr t h hf m a0 l m1 t1 J a w)
    (hr : Region.ready .any d.ops l = []) : drawPost w0 m h a0 tf hf .normal a w := by
  have hall := Inv.done D I.size hr
  have hJ : J = d.n := by
    rcases Nat.lt_or_ge J d.n with hJ | hJ
    · obtain ⟨j, _, hj, hpj⟩ := D.ok.Lpos J hJ
      exact absurd (hall j hj) (I.at_ j hj hpj).2
    · exact Nat.le_antisymm I.Jle hJ
  have hst : stage tr hf J = hf := by
    unfold stage
    rw [List.getElem?_eq_none (by rw [D.len, hJ]; exact Nat.le_refl _)]
  have H := I.H
  have Pp := I.P
  rw [hst] at H Pp
  refine ⟨m1, H, Pp, I.T.congr fun y => ?_, I.sz, I.df⟩
  rw [D.tfe]
  by_cases hex : ∃ i, i < d.n ∧ d.dst i = some y
  · obtain ⟨i, hi, hd⟩ := hex
    obtain ⟨o, ho, _, _⟩ := D.c i hi
    obtain ⟨x, hx, _⟩ := D.x i hi o ho
    obtain ⟨i', hi', hp', hd'⟩ := D.dst hx
    rw [D.posInj hi' hi hp', hd] at hd'
    rw [I.env1 i x y hi (hall i hi) hx hd']
    refine env_some hx hd' (fun q' x' h1 h2 => ?_) t
    obtain ⟨k2, hk2, hpk2, hdk2⟩ := D.dst h1
    rw [h2] at hdk2
    rw [D.ok.dsts i k2 hi hk2 y hd hdk2.symm]
    exact hpk2.symm
  · rw [I.env0 y fun i hi _ hd => hex ⟨i, hi, hd⟩]
    refine env_none fun x' hx' hd' => ?_
    obtain ⟨q, hq, rfl⟩ := List.getElem_of_mem hx'
    obtain ⟨k', hk', _, hdk'⟩ := D.dst (List.getElem?_eq_getElem hq)
    exact hex ⟨k', hk', by rw [← hdk', hd']⟩

def left (d : DI) (l : Array Bool) : Nat := ((List.range d.n).filter fun i => !l.getD i false).length

theorem filter_len_lt {α : Type} {p q : α → Bool} : ∀ {l : List α}, (∀ x ∈ l, q x = true → p x = true) → (∃ x ∈ l, p x = true ∧ q x = false) → (l.filter q).length < (l.filter p).length
  | [], _, h => by obtain ⟨x, hx, _⟩ := h; simp at hx
  | a :: l, hi, h => by
    have hle : ∀ l : List α, (∀ x ∈ l, q x = true → p x = true) → (l.filter q).length ≤ (l.filter p).length := by
      intro l
      induction l with
      | nil => intro _; simp
      | cons b l ih =>
        intro hi
        have := ih fun x hx => hi x (by simp [hx])
        have hb := hi b (by simp)
        cases hq : q b <;> cases hp : p b <;> simp_all <;> omega
    have hl := hle l fun x hx => hi x (by simp [hx])
    have ha := hi a (by simp)
    obtain ⟨x, hx, hp, hq⟩ := h
    rcases List.mem_cons.1 hx with rfl | hx
    · simp only [List.filter_cons, hp, hq, if_true]; simp; omega
    · have := filter_len_lt (l := l) (fun x hx => hi x (by simp [hx])) ⟨x, hx, hp, hq⟩
      cases hq2 : q a <;> cases hp2 : p a <;> simp_all <;> omega

theorem Inv.all (E : Env P md C w0) (S : ∀ w1, Env P md C w1 → SOk P md C w1 go) (N : NoRd go) (D : Dr P md C go nt d tr t tf h hf) (hlo : h.lo ≤ h.bs.length) (hnt : nt ≤ a0.tmps.size) : ∀ (k : Nat) {l : Array Bool} {m1 : Mu}
    {t1 : List Value} {J : Nat} {a : Act} {w : World}, Inv w0 d tr t h hf m a0 l m1 t1 J a w → left d l ≤ k → wpAny P .any d.ops (drawPost w0 m h a0 tf hf) k l a w
  | 0, l, m1, t1, J, a, w, I, hk => by
    have hr : Region.ready .any d.ops l = [] := by
      cases hrr : Region.ready .any d.ops l with
      | nil => rfl
      | cons i r =>
        exfalso
        have hi : i ∈ Region.ready .any d.ops l := by rw [hrr]; simp
        obtain ⟨hn0, o, ho, _⟩ := mem_ready.1 hi
        have hi : i < d.n := by rw [← D.ok.lenO]; exact (Array.getElem?_eq_some_iff.1 ho).1
        have hil : i < l.size := by rw [I.size]; exact hi
        have hf : l.getD i false = false := by
          rw [Array.getD_eq_getD_getElem?, Array.getElem?_eq_getElem hil] at hn0 ⊢
          simpa using hn0
        have hmem : i ∈ (List.range d.n).filter fun i => !l.getD i false := List.mem_filter.2 ⟨List.mem_range.2 hi, by simp only [hf]; rfl⟩
        unfold left at hk
        have : (List.range d.n).filter (fun i => !l.getD i false) = [] := List.eq_nil_of_length_eq_zero (by omega)
        rw [this] at hmem
        simp at hmem
    exact ⟨hr, I.last D hr⟩
  | k + 1, l, m1, t1, J, a, w, I, hk => by
    refine ⟨fun hr => I.last D hr, fun i hi => ?_⟩
    refine wpOp_mono (fun a' w' h' => ?_) (I.step E S N D hlo hnt hi)
    obtain ⟨m2, t2, J', I'⟩ := h'
    refine Inv.all E S N D hlo hnt k I' ?_
    obtain ⟨hn0, o, ho, _⟩ := mem_ready.1 hi
    have hi : i < d.n := by rw [← D.ok.lenO]; exact (Array.getElem?_eq_some_iff.1 ho).1
    have hil : i < l.size := by rw [I.size]; exact hi
    have hf : l.getD i false = false := by
      rw [Array.getD_eq_getD_getElem?, Array.getElem?_eq_getElem hil] at hn0 ⊢
      simpa using hn0
    have : left d (l.setIfInBounds i true) < left d l := by
      unfold left
      refine filter_len_lt (fun x _ hx => ?_) ⟨i, List.mem_range.2 hi, by simp only [hf]; rfl, ?_⟩
      · have hx' : ¬ Exd (l.setIfInBounds i true) x := by
          unfold Exd
          intro e
          rw [e] at hx
          cases hx
        rw [exd_set hil] at hx'
        have : ¬ Exd l x := fun e => hx' (.inr e)
        unfold Exd at this
        simpa using this
      · have : Exd (l.setIfInBounds i true) i := (exd_set hil i).2 (.inl rfl)
        unfold Exd at this
        rw [this]; rfl
    omega
end
end Go.Ab

/- One operation, in whatever frame, rounds too. -/
namespace Go.Ab
section
variable {P : Program} {md : FuncId → Bool} {C : Ctx} {w0 : World} {go : K}
theorem op_stepU {R : Value → World → Prop} {b : Frame} {a : Act} {k : List Item} {cs : List Frame} {w : World} {ops : Array Oper} {i : Nat} {rest : List Nat} {o : Oper}
    (ho : ops[i]? = some o) (hw : Region.wanted o (yielded ops a.tmps) = true) (hnd : ∀ c, o.op ≠ .defer c) (h : UponR P R ((execOp a.eval o).run P w)) :
    ∃ v w', R v w' ∧ Steps P (lone (b.atR a (.inRegion ops (i :: rest) :: k)) cs w) (lone (b.atR (a.put o.dst v) (.inRegion ops rest :: k)) cs w') := by
  have hg := stepGR_op (P := P) (b := b) (k := k) (cs := cs) (w := w) (rest := rest) ho hw
  rw [Oper.semAt_eq _ _ _ hnd] at hg
  have hfin : ∀ v, (b.atR a (.inRegion ops (i :: rest) :: k)).finish v = b.atR (a.put o.dst v) (.inRegion ops rest :: k) := by
    intro v; rw [Frame.finish_atR, ho]; rfl
  rcases h with h | ⟨l, f, tmps, assign, body, w', hr, hrd⟩
  · cases hr : (execOp a.eval o).run P w with
    | halt x w' => rw [hr] at h; exact h.elim
    | ok n w' =>
      rw [hr] at h
      cases n with
      | value v => exact ⟨v, _, h, .one (step_lone_go (by rw [hg, ← hfin]; simp [stepG.apply, hr]))⟩
      | skip => exact ⟨undef, _, h, .one (step_lone_go (by rw [hg, ← hfin]; simp [stepG.apply, hr]))⟩
      | enter f args =>
        obtain ⟨e, w'', fr, hR, hsteps, _, hleave⟩ := h.1 (b.atR a (.inRegion ops (i :: rest) :: k) :: cs)
        have henter : step P (lone (b.atR a (.inRegion ops (i :: rest) :: k)) cs w) =
            .next (lone (Frame.enter P f args .normal) (b.atR a (.inRegion ops (i :: rest) :: k) :: cs) w') :=
          step_lone_go (by rw [hg]; simp [stepG.apply, hr, Frame.atR])
        cases e with
        | returned v =>
          refine ⟨v, _, hR, .head henter (hsteps.trans (.one ?_))⟩
          rw [← hfin]; exact step_leave_returned hleave
        | panicked chain => exact hR.elim
        | outgrown => exact hR.elim
      | _ => exact h.elim
  · obtain ⟨u, w'', hR, hs⟩ := hrd (b.atR a (.inRegion ops (i :: rest) :: k)) cs
    have henter : step P (lone (b.atR a (.inRegion ops (i :: rest) :: k)) cs w) =
        .next (lone (Frame.round l f tmps assign body .normal) (b.atR a (.inRegion ops (i :: rest) :: k) :: cs) w') :=
      step_lone_go (by rw [hg]; simp [stepG.apply, hr, Frame.atR])
    exact ⟨u, _, hR, .head henter (by rw [← hfin]; exact hs)⟩
end
end Go.Ab

/- A round of a range over a function. -/
namespace Go.Ab
section
variable {P : Program} {md : FuncId → Bool} {C : Ctx} {w0 : World} {go : K}
theorem bindPs_rel {m : Mu} : ∀ {ps : List Nat} {x u : List Value} {t : List Value} {tmps : Array Value}, VRelL m x u → x.any isUnd = false → (∀ p, p ∈ ps → p < tmps.size) → TRel m t tmps →
    TRel m (bindPs (ps.zip x) t) ((ps.zip u).foldl (fun (s : Array Value) (q : Nat × Value) => s.setIfInBounds q.1 q.2) tmps) ∧ ((ps.zip u).foldl (fun (s : Array Value) (q : Nat × Value) => s.setIfInBounds q.1 q.2) tmps).size = tmps.size
  | [], x, u, t, tmps, _, _, _, hT => by simp only [List.zip_nil_left, bindPs, List.foldl_nil]; exact ⟨hT, trivial⟩
  | p :: ps, [], u, t, tmps, hr, _, _, hT => by
    have := hr.nil_left
    subst this
    simp only [List.zip_nil_right, bindPs, List.foldl_nil]
    exact ⟨hT, trivial⟩
  | p :: ps, v :: x, u, t, tmps, hr, hu, hp, hT => by
    obtain ⟨v', u', rfl, r1, r2⟩ := hr.uncons
    simp only [List.any_cons, Bool.or_eq_false_iff] at hu
    simp only [List.zip_cons_cons, bindPs, List.foldl_cons]
    have h1 : TRel m (ts t p v) (tmps.setIfInBounds p v') := by
      have := TRel.put (m := m) (t := t) (a := { tmps := tmps, defers := [] }) (d := some p) (v := v) (v' := v') hT (fun y hy => by cases hy; exact hp p (List.mem_cons_self ..)) r1 (fun _ hv => absurd (isUnd_iff.2 hv) (by simp [hu.1]))
      exact this
    have := bindPs_rel (ps := ps) (x := x) (u := u') (t := ts t p v) (tmps := tmps.setIfInBounds p v') r2 hu.2 (fun q hq => by rw [Array.size_setIfInBounds]; exact hp q (List.mem_cons_of_mem _ hq)) h1
    rw [Array.size_setIfInBounds] at this
    exact this
theorem cc_plain (E : Env P md C w0) {n : Nat} {c : Code} (h : isBad (C.cc n c) = false) : plainC c = true ∧ C.cc n c = cCode P md n c := by
  rw [E.cc] at h ⊢
  unfold cRound at h ⊢
  by_cases hp : plainC c = true
  · exact ⟨hp, by rw [if_pos hp]⟩
  · rw [if_neg hp] at h; cases h
theorem jump_st {v : Value} {j : Option Code} {st : Nat} (h : JumpOf v j) (hs : stOf v = some st) : (st == 0) = j.isNone ∧ LSt st (if j.isNone then LoopState.ready else LoopState.done) j := by
  rcases h with ⟨rfl, rfl⟩ | ⟨rfl, rfl⟩ | ⟨n, rfl, rfl⟩
  · simp only [stOf, Option.some.injEq] at hs
    subst hs
    exact ⟨rfl, rfl, rfl⟩
  · simp only [stOf, Option.some.injEq] at hs
    subst hs
    exact ⟨rfl, rfl, rfl⟩
  · simp only [stOf, Option.some.injEq] at hs
    subst hs
    exact ⟨rfl, rfl, rfl⟩
theorem doRound_sim (E : Env P md C w0) (SR : ∀ w1, Env P md C w1 → SOkR P md C w1 go) {m : Mu} {h h' : AHeap} {w : World} {v : Value} {as as' : List Value} {b l sz k : Nat} (H : HRel m w0 h w) (hb : m b 0 = some (l, sz, k)) (hr : VRelL m as as')
    (e : doRound C go (as ++ [.pointer (some ⟨b, 0, some 0⟩)]) h = some (v, h')) : UponR P (RR m w0 h v h' True) ((Instr.yield l ⟨as'⟩).run P w) := by
  unfold doRound at e
  split at e
  case h_2 => cases e
  rename_i b' nt A B t hin
  unfold roundIn at hin
  simp only [List.reverse_append, List.reverse_cons, List.reverse_nil, List.nil_append, List.cons_append] at hin
  split at hin
  case h_2 => cases hin
  rename_i ps A0 B0 nt0 snap hblk
  split at hin
  case isFalse => cases hin
  rename_i hc
  obtain ⟨hlo, hlen, hund⟩ := hc
  simp only [Option.some.injEq, Prod.mk.injEq] at hin
  obtain ⟨rfl, rfl, rfl, rfl, rfl⟩ := hin
  obtain ⟨_, hbr⟩ := H.blk _ _ _ _ _ hb
  rw [hblk] at hbr
  obtain ⟨_, L, hheap, hps, hA, hB, hnt, hpn, hsnap, hst⟩ := hbr
  split at e
  · cases e
  rename_i hbad
  simp only [Bool.not_eq_true, Bool.or_eq_false_iff] at hbad
  obtain ⟨pA, cA⟩ := cc_plain E hbad.1
  obtain ⟨pB, cB⟩ := cc_plain E hbad.2
  rw [cA, cB] at e
  split at e
  case h_2 => cases e
  rename_i v1 h1 e1
  rw [List.length_reverse] at hlen
  rw [List.any_reverse] at hund
  rw [List.reverse_reverse] at e1
  have hsz : (⟨as'⟩ : Array Value).size = L.params.size := by
    have h1 := hr.1
    have h2 : L.params.toList.length = ps.length := by rw [hps]
    simp at h2 ⊢
    omega
  refine .inr ⟨l, L.fn, _, L.assign, L.body, w, run_yield hheap hsz, fun c cs => ?_⟩
  have hfold : (L.params.zip (⟨as'⟩ : Array Value)).foldl (fun (tmps : Array Value) (x : Nat × Value) => tmps.setIfInBounds x.1 x.2) L.tmps =
      (ps.zip as').foldl (fun (s : Array Value) (q : Nat × Value) => s.setIfInBounds q.1 q.2) L.tmps := by
    rw [← Array.foldl_toList, Array.toList_zip, hps]
  obtain ⟨hT, hTs⟩ := bindPs_rel (ps := ps) hr hund (fun p hp => Nat.lt_of_lt_of_le (hpn p hp) hnt) hsnap
  rw [← hfold] at hT hTs
  generalize (L.params.zip (⟨as'⟩ : Array Value)).foldl (fun (tmps : Array Value) (x : Nat × Value) => tmps.setIfInBounds x.1 x.2) L.tmps = tmps at hT hTs
  let bR : Frame := { (default : Frame) with fn := L.fn, kind := .normal, roundOf := some l }
  have hfr : Frame.round l L.fn tmps L.assign L.body .normal = bR.atR { tmps := tmps, defers := [] } [.code L.assign, .beginRound, .code L.body] := rfl
  obtain ⟨w1, m1, jump, H1, P1, hj, hs⟩ := SR w0 E _ _ _ _ _ e1 nt0 b l sz k bR [.code L.assign, .beginRound, .code L.body] { tmps := tmps, defers := [] } c cs w m rfl rfl (by rw [hTs]; exact hnt)
    (by rw [← hA, ← hB]; exact .cons (.code _) (hA ▸ pA) (.begin (.cons (.code _) (hB ▸ pB) .last))) rfl hT H hb
  unfold roundEnd at e
  split at e
  case h_2 => cases e
  rename_i st ps2 A2 B2 nt2 snap2 hst2 hblk2
  simp only [Option.some.injEq, Prod.mk.injEq] at e
  obtain ⟨rfl, rfl⟩ := e
  have hb1 := P1.le _ _ _ hb
  obtain ⟨_, hbr1⟩ := H1.blk _ _ _ _ _ hb1
  rw [hblk2] at hbr1
  obtain ⟨_, L1, g1, g2, g3, g4, g5, g6, g7, g8⟩ := hbr1
  obtain ⟨j1, j2⟩ := jump_st hj hst2
  have hlo1 : h1.lo ≤ b := by rw [P1.lo]; exact hlo
  obtain ⟨H2, P2⟩ := H1.setObj (blk := .loop ps2 A2 B2 nt2 snap2 st) (ob := .loop { L1 with state := if jump.isNone then .ready else .done, pending := jump }) hb1 hlo1 (loop_tags H1 hblk2) ⟨rfl, _, rfl, g2, g3, g4, g5, g6, g7, j2⟩
  refine ⟨.bool jump.isNone, putBlock w1 l (.loop { L1 with state := if jump.isNone then .ready else .done, pending := jump }), ⟨m1, H2, P1.trans P2, by rw [j1]; exact .bool _, fun _ h => by cases h⟩, ?_⟩
  rw [hfr]
  exact hs _ _ (run_endRound jump g1)
end
end Go.Ab

/- A range over a function, the step. -/
namespace Go.Ab
section
variable {P : Program} {md : FuncId → Bool} {C : Ctx} {w0 : World} {go : K}
/-- the iterator is called: behind it the loop's end is due -/
theorem rf_steps {R : Value → World → Prop} {b : Frame} {a : Act} {f : Operand} {ps : Array Tmp} {x y : Code} {k : List Item} {cs : List Frame} {w : World} {g : FuncId} {u v : List Value}
    (hev : a.eval f = .func (.func g) ⟨u⟩ ⟨v⟩) (hcf : ∀ args w, (callFunc g args).run P w = .ok (.enter g args) w)
    (h : CallOk P g ⟨u ++ [.func (.yield (w.heap.size + 1)) #[] #[]] ++ v⟩ ((w.alloc (.deferred (some []))).alloc (.loop { state := .ready, pending := none, fn := b.fn, tmps := a.tmps, params := ps, assign := x, body := y, defers := w.heap.size })) R) :
    ∃ r w', R r w' ∧ Steps P (lone (b.at a (.code (.rangeFunc f ps x y) :: k)) cs w)
      (lone (b.at { a with defers := { target := .collected w.heap.size, args := #[] } :: a.defers } (.endRangeFunc (w.heap.size + 1) :: k)) cs w') := by
  have hen := run_enterLoop_outer (P := P) (w := w) b.fn a.tmps ps x y
  generalize hW : (w.alloc (.deferred (some []))).alloc (.loop { state := .ready, pending := none, fn := b.fn, tmps := a.tmps, params := ps, assign := x, body := y, defers := w.heap.size }) = W at *
  have hres : (resolve a.eval (rangeCall f (w.heap.size + 1)) 0).run P W = .ok { target := .fn (.func g) ⟨v⟩, args := ⟨u ++ [.func (.yield (w.heap.size + 1)) #[] #[]]⟩ } W := by
    simp only [resolve, rangeCall, hev, Deferred.ofValue]
    simp [Act.eval]
  have hinv : (invoke (.fn (.func g) ⟨v⟩) ⟨u ++ [.func (.yield (w.heap.size + 1)) #[] #[]]⟩).run P W = .ok (.enter g ⟨u ++ [.func (.yield (w.heap.size + 1)) #[] #[]] ++ v⟩) W := by
    simp only [invoke]
    rw [hcf]
    simp
  have s1 := stepR_rangeFunc (P := P) (b := { b with roundOf := none }) (a := a) (k := k) (cs := cs) (w := w) (g := f) (ps := ps) (assign := x) (body := y) (l := w.heap.size + 1) (f := g) hen hres hinv
  rw [Frame.atR_of_none rfl, Frame.atR_of_none rfl] at s1
  obtain ⟨e, w'', fr, hR, hsteps, _, hleave⟩ := h.1 (b.at { a with defers := [{ target := .collected w.heap.size, args := #[] }] ++ a.defers } (.inRangeFunc (w.heap.size + 1) :: k) :: cs)
  cases e with
  | returned r => exact ⟨r, _, hR, .head s1 (hsteps.trans (.one (step_leave_returned hleave)))⟩
  | panicked chain => exact hR.elim
  | outgrown => exact hR.elim
theorem LSt.nb {st : Nat} {s : LoopState} {p : Option Code} (h : LSt st s p) (h2 : ¬ (st = 2 ∨ st = 3)) : s ≠ .busy := by
  match st, h with
  | 0, h => rw [h.1]; intro h; cases h
  | 1, h => rw [h.1]; intro h; cases h
  | 2, _ => exact absurd (.inl rfl) h2
  | 3, _ => exact absurd (.inr rfl) h2
  | n + 4, h => rw [h.1]; intro h; cases h
theorem rf_sim (E : Env P md C w0) {self rec : K} (S1 : ∀ w1, Env P md C w1 → SOk P md C w1 self) (S2 : ∀ w1, Env P md C w1 → SOk P md C w1 rec) {rs : List ARes} {f : Operand} {ps : Array Tmp} {x y : Code} {k : List AItem} {K : List Item}
    {t : List Value} {ds : List ADefer} {h h' : AHeap} {v : Value} {F : Func} {b : Frame} {a : Act} {cs : List Frame} {w : World} {m : Mu}
    (hrs : F.results.toList.mapM (cRes P) = some rs) (hnt : F.ntmps ≤ a.tmps.size) (hk : KRel P md F.ntmps k K) (hT : TRel m t a.tmps) (hD : DRelL C m ds a.defers) (H : HRel m w0 h w)
    (e : stepM C self rec rs (.code (cCode P md F.ntmps (.rangeFunc f ps x y)) :: k) t ds h = some (v, h')) :
    Fin P F b cs (lone (b.at a (.code (.rangeFunc f ps x y) :: K)) cs w) (RR m w0 h v h' True) := by
  simp only [cCode] at e
  cases hc : cArg f with
  | none => rw [hc] at e; cases e
  | some af =>
    rw [hc] at e
    simp only at e
    split at e
    case isFalse => cases e
    rename_i hps
    replace e : rfStep C self rec rs af ps.toList x y F.ntmps k t ds h = some (v, h') := e
    unfold rfStep at e
    split at e
    case h_2 => cases e
    rename_i g args h1 hcall
    split at e
    case h_2 => cases e
    rename_i v1 h2 hdo
    split at e
    case h_2 => cases e
    rename_i st h3 hdone
    unfold rfCall at hcall
    split at hcall
    case h_2 => cases hcall
    rename_i g' first cap hev
    split at hcall
    case h_2 => cases hcall
    rename_i fn hfn
    dsimp only at hcall
    split at hcall
    case isTrue => cases hcall
    rename_i hund
    simp only [Option.some.injEq, Prod.mk.injEq] at hcall
    obtain ⟨rfl, rfl, rfl⟩ := hcall
    obtain ⟨first⟩ := first; obtain ⟨cap⟩ := cap
    have hx := hT.ev _ _ hc
    rw [hev] at hx
    generalize hy : a.eval f = yy at hx
    cases hx with
    | yield => rw [E.free.1] at hfn; cases hfn
    | func _ _ _ u vv hlt r1 r2 r3 r4 =>
      obtain ⟨H1, P1⟩ := H.push (blk := .dfr false) (o := .deferred (some [])) (t := 0) (sz := 0) (k := 0) ⟨rfl, rfl⟩
      obtain ⟨H2, P2⟩ := H1.push (blk := .loop ps.toList x y F.ntmps t 0) (o := .loop { state := .ready, pending := none, fn := b.fn, tmps := a.tmps, params := ps, assign := x, body := y, defers := w.heap.size }) (t := 0) (sz := 0) (k := 0)
        ⟨rfl, _, rfl, rfl, rfl, rfl, hnt, fun p hp => by simpa using List.all_eq_true.1 hps p hp, hT.mono P1.le, rfl, rfl⟩
      have hl1 : (h.push (.dfr false)).bs.length = h.bs.length + 1 := by simp [AHeap.push]
      have hs1 : (w.alloc (.deferred (some []))).heap.size = w.heap.size + 1 := World.size_alloc _ _
      rw [hl1, hs1] at H2 P2
      generalize hm2 : (m.set h.bs.length 0 (w.heap.size, 0, 0)).set (h.bs.length + 1) 0 (w.heap.size + 1, 0, 0) = m2 at H2 P2
      have P12 := P1.trans P2
      have hb2 : m2 (h.bs.length + 1) 0 = some (w.heap.size + 1, 0, 0) := by rw [← hm2]; exact Mu.set_self ..
      have hb1 : m2 h.bs.length 0 = some (w.heap.size, 0, 0) := P2.le _ _ _ (Mu.set_self ..)
      have hargs : VRelL m2 (first ++ [yieldV (h.bs.length + 1)] ++ cap) (u ++ [.func (.yield (w.heap.size + 1)) #[] #[]] ++ vv) :=
        ((VRelL.mono P12.le ⟨r1, r2⟩).append (VRelL.cons (.yield hb2) (VRelL.nil _))).append (VRelL.mono P12.le ⟨r3, r4⟩)
      have hup := callFunc_sim E S2 ⟨fun hh => (by rw [hh, E.free.1] at hfn; cases hfn), fun hh => (by rw [hh, E.free.2] at hfn; cases hfn)⟩ hdo (by simpa using hund) hargs H2
      obtain ⟨F1, hF1, hc1⟩ := E.fn _ _ hfn
      obtain ⟨c1, rr1, hbd1, _, hn1, _⟩ := cFn_spec hc1
      have hcf : ∀ args w, (callFunc g' args).run P w = .ok (.enter g' args) w := fun args w => run_callFunc hF1 hbd1 hn1
      rw [hcf] at hup
      obtain ⟨rv, w', ⟨m3, H3, P3, _, _⟩, hs⟩ := rf_steps (b := b) (k := K) (cs := cs) (ps := ps) (x := x) (y := y) hy hcf hup
      unfold rfDone at hdone
      split at hdone
      case h_2 => cases hdone
      rename_i ps' A' B' nt' snap st' hblk
      split at hdone
      · cases hdone
      rename_i hst
      simp only [Option.some.injEq, Prod.mk.injEq] at hdone
      obtain ⟨rfl, rfl⟩ := hdone
      have hb3 := P3.le _ _ _ hb2
      obtain ⟨_, hbr⟩ := H3.blk _ _ _ _ _ hb3
      rw [hblk] at hbr
      obtain ⟨_, L, g1, g2, g3, g4, g5, g6, g7, g8⟩ := hbr
      have hlo : h2.lo ≤ h.bs.length + 1 := by
        rw [P3.lo]
        exact Nat.le_succ_of_le H.lo
      obtain ⟨H4, P4⟩ := H3.setObj (blk := .loop ps' A' B' nt' snap 3) (ob := .loop { L with state := .exhausted }) hb3 hlo (loop_tags H3 hblk) ⟨rfl, _, rfl, g2, g3, g4, g5, g6, g7, rfl⟩
      have hend := run_endLoop (P := P) g1 (LSt.nb g8 hst)
      have s2 := stepR_endRangeFunc (P := P) (b := { b with roundOf := none }) (a := { a with defers := { target := .collected w.heap.size, args := #[] } :: a.defers }) (k := K) (cs := cs) hend
      rw [Frame.atR_of_none rfl, Frame.atR_of_none rfl] at s2
      have hs' := Steps.trans hs (.one s2)
      have PP := (P12.trans P3).trans P4
      have hD' : DRelL C m3 (⟨fTake, [.pointer (some ⟨h.bs.length, 0, some 0⟩)]⟩ :: ds) ({ target := .collected w.heap.size, args := #[] } :: a.defers) :=
        .cons (.inr ⟨rfl, _, _, _, _, rfl, P3.le _ _ _ hb1, rfl⟩) (hD.mono PP.le)
      have hT' : TRel m3 t a.tmps := hT.mono PP.le
      refine (Fin.of_steps hs' ?_).mono fun v w hr => RR.trans PP hr
      match st', g8, e with
      | 0, g8, e =>
        rw [g8.2] at H4 ⊢
        exact S1 w0 E _ _ _ _ _ _ _ e F b _ { a with defers := { target := .collected w.heap.size, args := #[] } :: a.defers } cs _ m3 hrs hnt hk hT' hD' H4
      | 1, g8, e =>
        rw [g8.2] at H4 ⊢
        exact Fin.of_steps (.one step_ret) (fin_sim E S2 hrs e hT' hD' H4 rfl rfl rfl)
      | n + 4, g8, e =>
        rw [g8.2] at H4 ⊢
        simp only [rfNext] at e
        split at e
        · rename_i k' hk'
          obtain ⟨K', q1, q2⟩ := exit_sim hk hk'
          exact Fin.of_steps (.one (step_exit q1)) (S1 w0 E _ _ _ _ _ _ _ e F b _ { a with defers := { target := .collected w.heap.size, args := #[] } :: a.defers } cs _ m3 hrs hnt q2 hT' hD' H4)
        · cases e
end
end Go.Ab

/- A round's step. -/
namespace Go.Ab

section
variable {P : Program} {md : FuncId → Bool} {C : Ctx} {w0 : World} {go : K}

theorem oper_simR (E : Env P md C w0) (S : ∀ w1, Env P md C w1 → SOk P md C w1 go) (SR : ∀ w1, Env P md C w1 → SOkR P md C w1 go) {m : Mu} {t : List Value} {a : Act} (hT : TRel m t a.tmps) {h h' : AHeap} {w : World} (H : HRel m w0 h w)
    {o : Oper} {v : Value} (e : exec1 C go t h (cOp P o) = some (v, h')) : UponR P (RR m w0 h v h' (opK (cOp P o) ≠ .plain)) ((execOp a.eval o).run P w) := by
  unfold exec1 at e
  split at e
  · rename_i hk
    refine .inl ((op_sim E.hold E.lies hT.ev H e).upon.mono fun v' w' hR => ?_)
    obtain ⟨m', a1, a2, a3, _⟩ := hR
    exact ⟨m', a1, a2, a3, fun h => absurd hk h⟩
  · rename_i hk
    rcases opK_cOp (P := P) (o := o) (by rw [hk]; simp) with ⟨c, ho, hop⟩ | ⟨c, ho, hop⟩
    · split at e
      · rename_i f args ht
        rw [hop] at ht
        rcases call_sim E hT.ev ht w with ⟨hlt, args', r1, r2, r3⟩ | ⟨rfl, b, l, sz, k, as, as', rfl, r1, r2, r3, r4⟩
        · have : (execOp a.eval o).run P w = (callFunc f ⟨args'⟩).run P w := by rw [← r3]; simp only [execOp, ho]
          rw [this]
          refine .inl ((callFunc_sim E S (lt_ne hlt) e r2 r1 H).mono fun v' w' hR => ?_)
          obtain ⟨m', a1, a2, a3, a4⟩ := hR
          exact ⟨m', a1, a2, a3, fun _ => a4 trivial⟩
        · have : (execOp a.eval o).run P w = (Instr.yield l ⟨as'⟩).run P w := by rw [← r4]; simp only [execOp, ho]
          rw [this]
          unfold doCall at e
          rw [E.free.1] at e
          simp only [if_true] at e
          rcases doRound_sim E SR H r1 r2 e with hu | ⟨l', f', tm, as1, bo, w', x1, x2⟩
          · refine .inl (hu.mono fun v' w' hR => ?_)
            obtain ⟨m', a1, a2, a3, a4⟩ := hR
            exact ⟨m', a1, a2, a3, fun _ => a4 trivial⟩
          · refine .inr ⟨l', f', tm, as1, bo, w', x1, fun c cs => ?_⟩
            obtain ⟨u, w'', ⟨m', a1, a2, a3, a4⟩, hs⟩ := x2 c cs
            exact ⟨u, w'', ⟨m', a1, a2, a3, fun _ => a4 trivial⟩, hs⟩
      · cases e
    · exfalso
      rw [hop] at hk
      unfold cCall at hk
      repeat' split at hk
      all_goals first | (simp [opK] at hk; done) | skip
      all_goals simp_all
  · cases e
theorem cCall_def {c : Call} {ty : TypeId} : opK (cCall P c ty true) = .defer ∨ cCall P c ty true = .bad := by
  unfold cCall
  split
  · split
    · exact .inl rfl
    · exact .inr rfl
  · split
    · exact .inl rfl
    · exact .inr rfl
  · split
    · exact .inl rfl
    · exact .inr rfl
  · exact .inr rfl
  · exact .inr rfl
theorem KRel.noRd {n : Nat} {k : List AItem} {K : List Item} (h : KRel P md n k K) : inRoundA k = false := by
  induction h with
  | nil => rfl
  | @cons x y k K hx hk ih =>
    cases hx <;> (cases hk <;> first | rfl | exact ih)

theorem FinR.trans {l : Nat} {c : Frame} {cs : List Frame} {M M' : Machine} {m m1 : Mu} {h h1 h' : AHeap} {v : Value} (hs : Steps P M M') (hP : Post m h m1 h1) (hf : FinR P w0 l c cs M' m1 h1 v h') :
    FinR P w0 l c cs M m h v h' := by
  obtain ⟨w1, m2, jump, a1, a2, a3, a4⟩ := hf
  exact ⟨w1, m2, jump, a1, hP.trans a2, a3, fun u w2 hr => hs.trans (a4 u w2 hr)⟩
theorem exit_simR {n bl id : Nat} {k : List AItem} {K : List Item} (h : KRelR P md n bl k K) :
    (∀ {k'}, aexitTo id k = some k' → ∃ K', exitTo id K = some K' ∧ KRelR P md n bl k' K') ∧ (aexitTo id k = none → exitTo id K = none) := by
  induction h with
  | last => exact ⟨fun e => (by cases e), fun _ => rfl⟩
  | begin hk ih => exact ⟨fun e => ih.1 e, fun e => ih.2 e⟩
  | cons hx hp hk ih =>
    cases hx with
    | inBlock id' =>
      simp only [aexitTo, exitTo]
      by_cases hid : id' = id
      · rw [if_pos hid]
        exact ⟨fun e => (by cases e; exact ⟨_, by simp [hid], hk⟩), fun e => (by cases e)⟩
      · rw [if_neg hid]
        refine ⟨fun e => ?_, fun e => ?_⟩
        · obtain ⟨K', h1, h2⟩ := ih.1 e
          exact ⟨K', by simp [hid, h1], h2⟩
        · simp [hid, ih.2 e]
    | _ =>
      simp only [aexitTo, exitTo]
      exact ih
theorem plain_find {l : Nat} : ∀ (c : Code) {rest : Code}, plainC c = true → findLabel c l = some rest → plainC rest = true
  | .seq a b, rest, hp, hf => by
    simp only [plainC, Bool.and_eq_true] at hp
    simp only [findLabel] at hf
    split at hf
    · rename_i r hr
      cases hf
      simp only [plainC, Bool.and_eq_true]
      exact ⟨plain_find a hp.1 hr, hp.2⟩
    · exact plain_find b hp.2 hf
  | .label l', rest, hp, hf => by
    simp only [findLabel] at hf
    split at hf
    · cases hf; rfl
    · cases hf
  | .cond .., rest, hp, hf => by cases hf
  | .region .., rest, hp, hf => by cases hf
  | .skip, rest, hp, hf => by cases hf
  | .block _ _, rest, hp, hf => by cases hf
  | .loop _, rest, hp, hf => by cases hf
  | .rangeFunc .., rest, hp, hf => by cases hf
  | .exit _, rest, hp, hf => by cases hf
  | .scope _, rest, hp, hf => by cases hf
  | .goto _, rest, hp, hf => by cases hf
  | .ret, rest, hp, hf => by cases hf
  | .refuse _, rest, hp, hf => by cases hf
theorem goto_simR {n bl l : Nat} {k : List AItem} {K : List Item} (h : KRelR P md n bl k K) : ∀ {k'}, agotoIn l k = some k' → ∃ K', gotoIn l K = some K' ∧ KRelR P md n bl k' K' := by
  induction h with
  | last => intro k' e; cases e
  | begin hk ih => intro k' e; exact ih e
  | cons hx hp hk ih =>
    intro k' e
    cases hx with
    | inScope body =>
      simp only [agotoIn, gotoIn, afindLabel_spec] at e ⊢
      cases hf : findLabel body l with
      | some rest =>
        rw [hf] at e
        cases e
        exact ⟨_, rfl, .cons (.code rest) (plain_find body hp hf) (.cons (.inScope body) hp hk)⟩
      | none =>
        rw [hf] at e
        exact ih e
    | _ =>
      simp only [agotoIn, gotoIn] at e ⊢
      exact ih e
theorem nodef {o : Oper} (h : noDeferOp o = true) : ∀ c, o.op ≠ .defer c := fun c hc => by
  unfold noDeferOp at h
  rw [hc] at h
  cases h
theorem nodef_opK {o : Oper} (h : noDeferOp o = true) : opK (cOp P o) ≠ .defer := fun hk => by
  rcases opK_cOp (P := P) (o := o) (by rw [hk]; simp) with ⟨c, ho, hop⟩ | ⟨c, ho, hop⟩
  · rw [hop] at hk
    unfold cCall at hk
    simp only [Bool.false_eq_true, if_false] at hk
    repeat' split at hk
    all_goals first | (simp [opK] at hk; done) | (rw [opK_cBlt] at hk; cases hk)
  · exact nodef h c ho
theorem step_simR (E : Env P md C w0) {self rec : K} (S2 : ∀ w1, Env P md C w1 → SOk P md C w1 rec) (S1R : ∀ w1, Env P md C w1 → SOkR P md C w1 self) (S2R : ∀ w1, Env P md C w1 → SOkR P md C w1 rec) : SOkR P md C w0 (stepM C self rec) := by
  intro items t h v h' e n bl l sz kk b K a c cs w m hro hkd hnt hK hdf hT H hbl
  have nextS : ∀ {items' K'}, KRelR P md n bl items' K' → self [] items' t [] h = some (v, h') → Steps P (lone (b.atR a K) (c :: cs) w) (lone (b.atR a K') (c :: cs) w) →
      FinR P w0 l c cs (lone (b.atR a K) (c :: cs) w) m h v h' := fun hk' e' hs => FinR.trans hs (Post.refl _ _) (S1R w0 E _ _ _ _ _ e' n bl l sz kk b _ a c cs w m hro hkd hnt hk' hdf hT H hbl)
  have nextR : ∀ {items' K'}, KRelR P md n bl items' K' → rec [] items' t [] h = some (v, h') → Steps P (lone (b.atR a K) (c :: cs) w) (lone (b.atR a K') (c :: cs) w) →
      FinR P w0 l c cs (lone (b.atR a K) (c :: cs) w) m h v h' := fun hk' e' hs => FinR.trans hs (Post.refl _ _) (S2R w0 E _ _ _ _ _ e' n bl l sz kk b _ a c cs w m hro hkd hnt hk' hdf hT H hbl)
  unfold stepM at e
  cases hK with
  | last =>
    simp only [Option.some.injEq, Prod.mk.injEq] at e
    obtain ⟨rfl, rfl⟩ := e
    exact ⟨w, m, none, H, Post.refl _ _, .inl ⟨rfl, rfl⟩, fun u w2 hr => .one (stepR_round_end hro hkd hr)⟩
  | @begin k K hk =>
    simp only at e
    split at e
    case h_2 => cases e
    rename_i h1 hb
    unfold roundBegin at hb
    split at hb
    case h_2 => cases hb
    rename_i ps A B nt snap hblk
    split at hb
    case isFalse => cases hb
    rename_i hlo
    cases hb
    obtain ⟨_, hbr⟩ := H.blk _ _ _ _ _ hbl
    rw [hblk] at hbr
    obtain ⟨_, L, g1, g2, g3, g4, g5, g6, g7, g8⟩ := hbr
    obtain ⟨H2, P2⟩ := H.setObj (blk := .loop ps A B nt snap 2) (ob := .loop { L with state := .busy }) hbl hlo (loop_tags H hblk) ⟨rfl, _, rfl, g2, g3, g4, g5, g6, g7, rfl⟩
    exact FinR.trans (.one (stepR_beginRound hro (run_beginRound g1 g8.1))) P2 (S1R w0 E _ _ _ _ _ e n bl l sz kk b _ a c cs _ m hro hkd hnt hk hdf (hT.mono P2.le) H2 (P2.le _ _ _ hbl))
  | @cons x y k K hx hp hk =>
    cases hx with
    | inBlock id => exact nextS hk e (.one stepR_inBlock)
    | inScope c => exact nextS hk e (.one (step_lone_go (by simp [stepG, stepG.exec, Frame.atR])))
    | inLoop c => exact nextR (.cons (.code c) hp (.cons (.inLoop c) hp hk)) e (.one stepR_inLoop)
    | ops ops is lo hl hl2 =>
      cases lo with
      | nil =>
        have his : is = [] := List.eq_nil_of_length_eq_zero (by simpa using hl.symm)
        subst his
        exact nextS hk e (.one stepR_region_end)
      | cons ao os =>
        cases is with
        | nil => simp at hl
        | cons i is =>
          obtain ⟨o, ho, hao⟩ := hl2 0 ao i rfl rfl
          have hrest : IRel P md n (.ops os) (.inRegion ops is) := .ops ops is os (by simpa using hl) fun j ao i h1 h2 => hl2 (j + 1) ao i (by simpa using h1) (by simpa using h2)
          have hnd0 : noDeferOp o = true := by
            have hp' : ops.toList.all noDeferOp = true := hp
            rw [List.all_eq_true] at hp'
            exact hp' o (by
              have := Array.mem_of_getElem? ho
              simpa using this)
          simp only at e
          rcases cOper_cases (P := P) ops n o with hbad | ⟨g, hg, hdst, hgood⟩
          · exfalso
            rw [hao, hbad] at e
            simp [badOper, wantedA, opK, exec1, aexec, resOk] at e
          · have hadst : ao.dst = o.dst := by rw [hao, hgood]
            have haop : ao.op = cOp P o := by rw [hao, hgood]
            have hag : ao.guard = g := by rw [hao, hgood]
            have hwant : wantedA t ao.guard = Region.wanted o (yielded ops a.tmps) := by rw [hag]; exact wantedA_spec hT hnt hg
            have hdn : ∀ y, o.dst = some y → y < a.tmps.size := fun y hy => Nat.lt_of_lt_of_le (hdst y hy) hnt
            have goOn : ∀ {v1 : Value} {h1 : AHeap} {v' : Value} {w1 : World} {m1 : Mu}, self [] (.ops os :: k) (putD t ao.dst v1) [] h1 = some (v, h') →
                TRel m1 (putD t ao.dst v1) (a.put o.dst v').tmps → HRel m1 w0 h1 w1 → Post m h m1 h1 →
                Steps P (lone (b.atR a (.inRegion ops (i :: is) :: K)) (c :: cs) w) (lone (b.atR (a.put o.dst v') (.inRegion ops is :: K)) (c :: cs) w1) →
                FinR P w0 l c cs (lone (b.atR a (.inRegion ops (i :: is) :: K)) (c :: cs) w) m h v h' := by
              intro v1 h1 v' w1 m1 e1 hT1 H1 hP hs
              exact FinR.trans hs hP (S1R w0 E _ _ _ _ _ e1 n bl l sz kk b _ (a.put o.dst v') c cs w1 m1 hro hkd (by rw [put_size]; exact hnt) (.cons hrest hp hk) (by rw [put_defers]; exact hdf) hT1 H1 (hP.le _ _ _ hbl))
            by_cases hw : Region.wanted o (yielded ops a.tmps) = true
            · rw [hwant, if_pos hw] at e
              have hndk : opK ao.op ≠ .defer := by rw [haop]; exact nodef_opK hnd0
              have plainC : (match resOk (pdst ao) (exec1 C rec t h ao.op) with
                  | some (v, h') => self [] (.ops os :: k) (putD t ao.dst v) [] h'
                  | none => none) = some (v, h') → FinR P w0 l c cs (lone (b.atR a (.inRegion ops (i :: is) :: K)) (c :: cs) w) m h v h' := by
                intro e
                cases hr : resOk (pdst ao) (exec1 C rec t h ao.op) with
                | none => rw [hr] at e; cases e
                | some p =>
                  obtain ⟨v1, h1⟩ := p
                  rw [hr] at e
                  obtain ⟨e1, hund⟩ := resOk_some hr
                  rw [haop] at e1
                  have hup := oper_simR E S2 S2R hT H e1
                  obtain ⟨v', w1, ⟨m1, r1, r2, r3, r4⟩, hs⟩ := op_stepU (P := P) (b := b) (a := a) (k := K) (cs := c :: cs) (w := w) (rest := is) ho hw (nodef hnd0) hup
                  refine goOn e ?_ r1 r2 hs
                  rw [hadst]
                  refine (hT.mono r2.le).put hdn r3 fun hs hv => ?_
                  by_cases hk : opK (cOp P o) = .plain
                  · exact absurd hv (hund (by unfold pdst; rw [haop, hk]; simp only; rw [hadst]; exact hs))
                  · exact r4 hk hv
              cases hk2 : opK ao.op with
              | plain => rw [hk2] at e; exact plainC e
              | call => rw [hk2] at e; exact plainC e
              | defer => exact absurd hk2 hndk
            · rw [hwant, if_neg hw] at e
              have hs : Steps P (lone (b.atR a (.inRegion ops (i :: is) :: K)) (c :: cs) w) (lone (b.atR (a.put o.dst undef) (.inRegion ops is :: K)) (c :: cs) w) := by
                have := stepR_op_skip (P := P) (b := b) (a := a) (k := K) (cs := c :: cs) (w := w) (ops := ops) (i := i) (rest := is) (by simp [ho]; simpa using hw)
                simp only [ho, Option.bind_some] at this
                exact .one this
              refine goOn e ?_ H (Post.refl _ _) hs
              rw [hadst]
              exact hT.put hdn (.any _) fun _ _ => rfl
    | code cd =>
      cases cd with
      | skip => exact nextS hk e (.one stepR_skip)
      | label l => exact nextS hk e (.one stepR_label)
      | seq x y =>
        have hp' : plainC x = true ∧ plainC y = true := by simpa [plainI, plainC] using hp
        exact nextS (.cons (.code x) hp'.1 (.cons (.code y) hp'.2 hk)) e (.one stepR_seq)
      | block id x => exact nextS (.cons (.code x) hp (.cons (.inBlock id) trivial hk)) e (.one stepR_block)
      | loop x => exact nextS (.cons (.code x) hp (.cons (.inLoop x) hp hk)) e (.one stepR_loop)
      | scope x => exact nextS (.cons (.code x) hp (.cons (.inScope x) hp hk)) e (.one (step_lone_go (by simp [stepG, stepG.exec, Frame.atR])))
      | exit id =>
        simp only [cCode] at e
        cases he : aexitTo id k with
        | none =>
          rw [he] at e
          simp only at e
          split at e
          · cases e
            exact ⟨w, m, _, H, Post.refl _ _, .inr (.inr ⟨id, rfl, rfl⟩), fun u w2 hr => .one (stepR_round_exit hro hkd ((exit_simR hk).2 he) hr)⟩
          · cases e
        | some k' =>
          rw [he] at e
          obtain ⟨K', h1, h2⟩ := (exit_simR hk).1 he
          exact nextS h2 e (.one (stepR_exit h1))
      | goto l =>
        simp only [cCode] at e
        cases he : agotoIn l k with
        | none => rw [he] at e; cases e
        | some k' =>
          rw [he] at e
          obtain ⟨K', h1, h2⟩ := goto_simR hk he
          exact nextR h2 e (.one (stepR_goto h1))
      | ret =>
        have e : fin C rec [] t [] h = some (v, h') := e
        simp only [fin, resultsA, List.mapM_nil] at e
        cases e
        exact ⟨w, m, _, H, Post.refl _ _, .inr (.inl ⟨rfl, rfl⟩), fun u w2 hr => .one (stepR_round_ret hro hkd hr)⟩
      | rangeFunc f ps x y => cases hp
      | refuse s => cases e
      | cond c x y =>
        have hp' : plainC x = true ∧ plainC y = true := by simpa [plainI, plainC] using hp
        simp only [cCode] at e
        cases hc : cArg c with
        | none => rw [hc] at e; cases e
        | some ac =>
          rw [hc] at e
          simp only at e
          have hr := hT.ev _ _ hc
          split at e
          · rename_i hv
            rw [hv] at hr
            have : a.eval c = .bool true := by generalize a.eval c = y at hr; cases hr; rfl
            exact nextS (.cons (.code x) hp'.1 hk) e (.one (stepR_cond this))
          · rename_i hv
            rw [hv] at hr
            have : a.eval c = .bool false := by generalize a.eval c = y at hr; cases hr; rfl
            exact nextS (.cons (.code y) hp'.2 hk) e (.one (stepR_cond this))
          · cases e
      | region id ops dr =>
        cases dr with
        | false =>
          have hp' : ops.toList.all noDeferOp = true := hp
          refine nextS (.cons (.ops ops (List.range ops.size) _ (by simp [cOps]) fun j ao i h1 h2 => ?_) hp' hk) e (.one stepR_region)
          have hj : j < ops.size := by
            rcases Nat.lt_or_ge j (List.range ops.size).length with h | h
            · simpa using h
            · rw [List.getElem?_eq_none h] at h2; cases h2
          rw [List.getElem?_range hj] at h2
          cases h2
          refine ⟨ops[j], Array.getElem?_eq_getElem hj, ?_⟩
          unfold cOps at h1
          rw [List.getElem?_map] at h1
          simp [hj] at h1
          exact h1.symm
        | true => cases hp
end
end Go.Ab

/- What the abstract machine says holds of the model. -/
namespace Go.Ab

section
variable {P : Program} {md : FuncId → Bool} {C : Ctx} {w0 : World} {go : K}

theorem drawDI_ex {nt : Nat} {ops : Array Oper} : ∃ lt, drawDI P md nt ops = drawDIx P md lt nt ops := by
  unfold drawDI
  simp only
  split
  · exact ⟨false, rfl⟩
  · exact ⟨true, rfl⟩
theorem drawDI_dr (E : Env P md C w0) {nt : Nat} {ops : Array Oper} (hok : (drawDI P md nt ops).ok = true) {t tf : List Value} {h hf : AHeap}
    (e : drawRun C go (drawList (drawDI P md nt ops)) t h = some (tf, hf)) : ∃ tr, Dr P md C go nt (drawDI P md nt ops) tr t tf h hf := by
  have D := DI.ok_spec hok
  obtain ⟨lt, hlt⟩ := drawDI_ex (P := P) (md := md) (nt := nt) (ops := ops)
  generalize hd : drawDI P md nt ops = d at *
  have _ := E.mix
  unfold drawRun at e
  cases hs : seqRun C go (drawList d) t h with
  | none => rw [hs] at e; cases e
  | some q =>
    obtain ⟨tr, t', h'⟩ := q
    rw [hs] at e
    simp only at e
    split at e
    · rename_i hck
      cases e
      obtain ⟨a1, a2, a3, a4⟩ := seqRun_spec hs
      have hlen : tr.length = d.n := by rw [a1]; simp [drawList, D.lenL]
      have hops : d.ops = ops := by rw [hlt]; rfl
      have hdc : d.c = cOps P nt ops := by rw [hlt]; rfl
      have hcl : d.cl = (ops.toList.zip (cOps P nt ops)).map fun (o, a) => clsO d.lt md o a.op := by rw [hlt]; rfl
      have hc : ∀ i, i < d.n → ∃ o, d.ops[i]? = some o ∧ d.c[i]? = some (cOper P d.ops nt o) ∧ d.cl.getD i 2 = clsO d.lt md o (cOper P d.ops nt o).op := by
        intro i hi
        have hi' : i < ops.size := by rw [← hops, D.lenO]; exact hi
        obtain ⟨o, ho⟩ : ∃ o, ops[i]? = some o := ⟨_, Array.getElem?_eq_getElem hi'⟩
        have hco : (cOps P nt ops)[i]? = some (cOper P ops nt o) := by simp [cOps, ho]
        refine ⟨o, by rw [hops]; exact ho, by rw [hdc, hops]; exact hco, ?_⟩
        have hz : (ops.toList.zip (cOps P nt ops))[i]? = some (o, cOper P ops nt o) := List.getElem?_zip_eq_some.2 ⟨by simpa using ho, hco⟩
        rw [hcl, List.getD_eq_getElem?_getD, List.getElem?_map, hz, hops]
        rfl
      refine ⟨tr, D, hc, hlen, a2, a3, fun i hi o ho => ?_, fun x hx j hj => ?_⟩
      · obtain ⟨hp, hL⟩ := D.posL i hi
        have hpt : d.p i < tr.length := by rw [hlen]; exact hp
        obtain ⟨b1, b2, b3, b4⟩ := a4 (d.p i) tr[d.p i] (List.getElem?_eq_getElem hpt)
        refine ⟨tr[d.p i], List.getElem?_eq_getElem hpt, ?_, stage_of (List.getElem?_eq_getElem hpt), b2, b3, b4⟩
        obtain ⟨o', ho', hco, _⟩ := hc i hi
        rw [ho] at ho'
        cases ho'
        unfold drawList at b1
        rw [List.getElem?_map, hL] at b1
        simp only [Option.map_some, Option.some.injEq] at b1
        rw [← b1, List.getD_eq_getElem?_getD, hco]
        rfl
      · unfold drawCheck at hck
        simp only [List.all_eq_true] at hck
        exact hck x hx j hj
    · cases e

/-- a drawn region -/
theorem draw_sim (E : Env P md C w0) (S : ∀ w1, Env P md C w1 → SOk P md C w1 go) (N : NoRd go) {nt id : Nat} {ops : Array Oper} (hok : (drawDI P md nt ops).ok = true) {t tf : List Value} {h hf : AHeap}
    (e : drawRun C go (drawList (drawDI P md nt ops)) t h = some (tf, hf)) {a : Act} {w : World} {m : Mu} (hnt : nt ≤ a.tmps.size) (hT : TRel m t a.tmps) (H : HRel m w0 h w) :
    (Code.region id ops true).wp P (drawPost w0 m h a tf hf) a w := by
  obtain ⟨tr, D⟩ := drawDI_dr E hok e
  have hn : (drawDI P md nt ops).n = ops.size := by
    obtain ⟨lt, hlt⟩ := drawDI_ex (P := P) (md := md) (nt := nt) (ops := ops)
    rw [hlt]; rfl
  refine wp_region_any E.mix ?_
  obtain ⟨J, I⟩ := D.start E (a0 := a) (H.drew (w.drawn + 1)) hT
  have := Inv.all E S N D H.lo hnt ops.size I (by
    unfold left
    refine Nat.le_trans (List.length_filter_le _ _) ?_
    simp [hn])
  rw [hn, show (drawDI P md nt ops).ops = ops by
    obtain ⟨lt, hlt⟩ := drawDI_ex (P := P) (md := md) (nt := nt) (ops := ops)
    rw [hlt]; rfl] at this
  exact this

theorem step_sim (E : Env P md C w0) {self rec : K} (S1 : ∀ w1, Env P md C w1 → SOk P md C w1 self) (S2 : ∀ w1, Env P md C w1 → SOk P md C w1 rec) (S2R : ∀ w1, Env P md C w1 → SOkR P md C w1 rec) : SOk P md C w0 (stepM C self rec) := by
  intro rs items t ds h v h' e F b K a cs w m hrs hnt hK hT hD H
  have nextS : ∀ {items' K'}, KRel P md F.ntmps items' K' → self rs items' t ds h = some (v, h') → Steps P (lone (b.at a K) cs w) (lone (b.at a K') cs w) →
      Fin P F b cs (lone (b.at a K) cs w) (RR m w0 h v h' True) := fun hk' e' hs => Fin.of_steps hs (S1 w0 E _ _ _ _ _ _ _ e' F b _ a cs w m hrs hnt hk' hT hD H)
  have nextR : ∀ {items' K'}, KRel P md F.ntmps items' K' → rec rs items' t ds h = some (v, h') → Steps P (lone (b.at a K) cs w) (lone (b.at a K') cs w) →
      Fin P F b cs (lone (b.at a K) cs w) (RR m w0 h v h' True) := fun hk' e' hs => Fin.of_steps hs (S2 w0 E _ _ _ _ _ _ _ e' F b _ a cs w m hrs hnt hk' hT hD H)
  unfold stepM at e
  cases hK with
  | nil => exact Fin.of_steps (.one step_end) (fin_sim E S2 hrs e hT hD H rfl rfl rfl)
  | @cons x y k K hx hk =>
    cases hx with
    | inBlock id => exact nextS hk e (.one step_inBlock)
    | inScope c => exact nextS hk e (.one (step_lone_go (by simp [stepG, stepG.exec, Frame.at])))
    | inLoop c => exact nextR (.cons (.code c) (.cons (.inLoop c) hk)) e (.one step_inLoop)
    | ops ops is l hl hl2 =>
      cases l with
      | nil =>
        have his : is = [] := List.eq_nil_of_length_eq_zero (by simpa using hl.symm)
        subst his
        exact nextS hk e (.one step_region_end)
      | cons ao os =>
        cases is with
        | nil => simp at hl
        | cons i is =>
          obtain ⟨o, ho, hao⟩ := hl2 0 ao i rfl rfl
          have hrest : IRel P md F.ntmps (.ops os) (.inRegion ops is) := .ops ops is os (by simpa using hl) fun j ao i h1 h2 => hl2 (j + 1) ao i (by simpa using h1) (by simpa using h2)
          simp only at e
          rcases cOper_cases (P := P) ops F.ntmps o with hbad | ⟨g, hg, hdst, hgood⟩
          · exfalso
            rw [hao, hbad] at e
            simp [badOper, wantedA, opK, exec1, aexec, resOk] at e
          · have hadst : ao.dst = o.dst := by rw [hao, hgood]
            have haop : ao.op = cOp P o := by rw [hao, hgood]
            have hag : ao.guard = g := by rw [hao, hgood]
            have hwant : wantedA t ao.guard = Region.wanted o (yielded ops a.tmps) := by rw [hag]; exact wantedA_spec hT hnt hg
            have hdn : ∀ y, o.dst = some y → y < a.tmps.size := fun y hy => Nat.lt_of_lt_of_le (hdst y hy) hnt
            -- going on
            have goOn : ∀ {v1 : Value} {h1 : AHeap} {ds1 : List ADefer} {a1 : Act} {w1 : World} {m1 : Mu}, self rs (.ops os :: k) (putD t ao.dst v1) ds1 h1 = some (v, h') →
                TRel m1 (putD t ao.dst v1) a1.tmps → a1.tmps.size = a.tmps.size → DRelL C m1 ds1 a1.defers → HRel m1 w0 h1 w1 → Post m h m1 h1 →
                Steps P (lone (b.at a (.inRegion ops (i :: is) :: K)) cs w) (lone (b.at a1 (.inRegion ops is :: K)) cs w1) →
                Fin P F b cs (lone (b.at a (.inRegion ops (i :: is) :: K)) cs w) (RR m w0 h v h' True) := by
              intro v1 h1 ds1 a1 w1 m1 e1 hT1 hsz hD1 H1 hP hs
              exact (Fin.of_steps hs (S1 w0 E _ _ _ _ _ _ _ e1 F b _ a1 cs w1 m1 hrs (by rw [hsz]; exact hnt) (.cons hrest hk) hT1 hD1 H1)).mono fun v w hr => RR.trans hP hr
            by_cases hw : Region.wanted o (yielded ops a.tmps) = true
            · rw [hwant, if_pos hw] at e
              have plainC : resOk (pdst ao) (exec1 C rec t h ao.op) ≠ none → (match resOk (pdst ao) (exec1 C rec t h ao.op) with
                  | some (v, h') => self rs (.ops os :: k) (putD t ao.dst v) ds h'
                  | none => none) = some (v, h') → Fin P F b cs (lone (b.at a (.inRegion ops (i :: is) :: K)) cs w) (RR m w0 h v h' True) := by
                intro _ e
                cases hr : resOk (pdst ao) (exec1 C rec t h ao.op) with
                | none => rw [hr] at e; cases e
                | some p =>
                  obtain ⟨v1, h1⟩ := p
                  rw [hr] at e
                  obtain ⟨e1, hund⟩ := resOk_some hr
                  rw [haop] at e1
                  have hup := oper_simR E S2 S2R hT H e1
                  have hndf : ∀ c, o.op ≠ .defer c := fun c hc => by
                    have hk3 : opK (cOp P o) = .defer ∨ cOp P o = .bad := by
                      have : cOp P o = cCall P c o.type true := by unfold cOp; rw [hc]
                      rw [this]; exact cCall_def
                    rcases hk3 with hk3 | hk3
                    · simp only [exec1, hk3] at e1; cases e1
                    · rw [hk3] at e1; simp [exec1, opK, aexec] at e1
                  obtain ⟨v', w1, ⟨m1, r1, r2, r3, r4⟩, hs⟩ := op_stepU (P := P) (b := { b with roundOf := none }) (a := a) (k := K) (cs := cs) (w := w) (rest := is) ho hw hndf hup
                  rw [Frame.atR_of_none rfl, Frame.atR_of_none rfl] at hs
                  replace hs : Steps P (lone (b.at a (.inRegion ops (i :: is) :: K)) cs w) (lone (b.at (a.put o.dst v') (.inRegion ops is :: K)) cs w1) := hs
                  refine goOn e ?_ (put_size _ _ _) (by rw [put_defers]; exact hD.mono r2.le) r1 r2 hs
                  rw [hadst]
                  refine (hT.mono r2.le).put hdn r3 fun hs hv => ?_
                  by_cases hk : opK (cOp P o) = .plain
                  · exact absurd hv (hund (by unfold pdst; rw [haop, hk]; simp only; rw [hadst]; exact hs))
                  · exact r4 hk hv
              have hne : ∀ {α : Type} {x : Res} {f : Value × AHeap → Option α} {r : α}, (match x with | some p => f p | none => none) = some r → x ≠ none := by
                intro α x f r hx hn; rw [hn] at hx; cases hx
              cases hk2 : opK ao.op with
              | plain =>
                rw [hk2] at e
                exact plainC (fun hn => by simp only at e; rw [hn] at e; cases e) e
              | call =>
                rw [hk2] at e
                exact plainC (fun hn => by simp only at e; rw [hn] at e; cases e) e
              | defer =>
                rw [hk2] at e
                simp only at e
                cases ht : target C t ao.op with
                | none => rw [ht] at e; cases e
                | some p =>
                  obtain ⟨f, args⟩ := p
                  rw [ht] at e
                  simp only at e
                  rw [haop] at ht hk2
                  rcases opK_cOp (P := P) (o := o) (by rw [hk2]; simp) with ⟨c, hoc, hop⟩ | ⟨c, hoc, hop⟩
                  · exfalso
                    rw [hop] at hk2
                    unfold cCall at hk2
                    simp only [Bool.false_eq_true, if_false] at hk2
                    repeat' split at hk2
                    all_goals first | (simp [opK] at hk2; done) | (rw [opK_cBlt] at hk2; cases hk2)
                  · rw [hop] at ht
                    obtain ⟨Df, r1, r2⟩ := defer_sim E hT.ev ht w
                    obtain ⟨a1, w1, ⟨rfl, rfl⟩, hs⟩ := op_step (P := P) (b := b) (a := a) (k := K) (cs := cs) (w := w) (rest := is) ho hw
                      (X := fun a' w' => a' = ({ a with defers := Df :: a.defers } : Act).put o.dst undef ∧ w' = w) (by
                        have : (execOp a.eval o).run P w = .ok (.defer Df) w := by
                          simp only [execOp, hoc, Sem.run_bind, r1, Result.andThen_ok, Sem.run_pure]
                        rw [this]
                        exact ⟨rfl, rfl⟩)
                    refine goOn e ?_ (put_size { a with defers := Df :: a.defers } _ _) (by rw [put_defers]; exact .cons r2 hD) H (Post.refl _ _) hs
                    rw [hadst]
                    exact TRel.put (a := { a with defers := Df :: a.defers }) hT hdn (.any _) fun _ _ => rfl
            · rw [hwant, if_neg hw] at e
              have hs : Steps P (lone (b.at a (.inRegion ops (i :: is) :: K)) cs w) (lone (b.at (a.put o.dst undef) (.inRegion ops is :: K)) cs w) := by
                have := step_op_skip (P := P) (b := b) (a := a) (k := K) (cs := cs) (w := w) (ops := ops) (i := i) (rest := is) (by simp [ho]; simpa using hw)
                simp only [ho, Option.bind_some] at this
                exact .one this
              refine goOn e ?_ (put_size _ _ _) (by rw [put_defers]; exact hD) H (Post.refl _ _) hs
              rw [hadst]
              exact hT.put hdn (.any _) fun _ _ => rfl
    | code c =>
      cases c with
      | skip => exact nextS hk e (.one step_skip)
      | label l => exact nextS hk e (.one step_label)
      | seq x y => exact nextS (.cons (.code x) (.cons (.code y) hk)) e (.one step_seq)
      | block id x => exact nextS (.cons (.code x) (.cons (.inBlock id) hk)) e (.one step_block)
      | loop x => exact nextS (.cons (.code x) (.cons (.inLoop x) hk)) e (.one step_loop)
      | scope x => exact nextS (.cons (.code x) (.cons (.inScope x) hk)) e (.one (step_lone_go (by simp [stepG, stepG.exec, Frame.at])))
      | exit id =>
        simp only [cCode] at e
        cases he : aexitTo id k with
        | none =>
          rw [he] at e
          simp only [hk.noRd, Bool.false_eq_true, if_false] at e
          split at e <;> cases e
        | some k' =>
          rw [he] at e
          obtain ⟨K', h1, h2⟩ := exit_sim hk he
          exact nextS h2 e (.one (step_exit h1))
      | goto l =>
        simp only [cCode] at e
        cases he : agotoIn l k with
        | none => rw [he] at e; cases e
        | some k' =>
          rw [he] at e
          obtain ⟨K', h1, h2⟩ := goto_sim hk he
          exact nextR h2 e (.one (step_goto h1))
      | ret => exact Fin.of_steps (.one step_ret) (fin_sim E S2 hrs e hT hD H rfl rfl rfl)
      | rangeFunc f ps x y => exact rf_sim E S1 S2 hrs hnt hk hT hD H e
      | refuse s => cases e
      | cond c x y =>
        simp only [cCode] at e
        cases hc : cArg c with
        | none => rw [hc] at e; cases e
        | some ac =>
          rw [hc] at e
          simp only at e
          have hr := hT.ev _ _ hc
          split at e
          · rename_i hv
            rw [hv] at hr
            have : a.eval c = .bool true := by generalize a.eval c = y at hr; cases hr; rfl
            exact nextS (.cons (.code x) hk) e (.one (step_cond this))
          · rename_i hv
            rw [hv] at hr
            have : a.eval c = .bool false := by generalize a.eval c = y at hr; cases hr; rfl
            exact nextS (.cons (.code y) hk) e (.one (step_cond this))
          · cases e
      | region id ops dr =>
        cases dr with
        | false =>
          refine nextS (.cons (.ops ops (List.range ops.size) _ (by simp [cOps]) fun j ao i h1 h2 => ?_) hk) e (.one step_region)
          have hj : j < ops.size := by
            rcases Nat.lt_or_ge j (List.range ops.size).length with h | h
            · simpa using h
            · rw [List.getElem?_eq_none h] at h2; cases h2
          rw [List.getElem?_range hj] at h2
          cases h2
          refine ⟨ops[j], Array.getElem?_eq_getElem hj, ?_⟩
          unfold cOps at h1
          rw [List.getElem?_map] at h1
          simp [hj] at h1
          exact h1.symm
        | true =>
          cases hok : (drawDI P md F.ntmps ops).ok with
          | false => simp [cCode, hok] at e
          | true =>
            simp only [cCode, hok, if_true] at e
            cases hdr : drawRun C (noRd rec) (drawList (drawDI P md F.ntmps ops)) t h with
            | none => rw [hdr] at e; cases e
            | some q =>
              obtain ⟨t', h1⟩ := q
              rw [hdr] at e
              simp only at e
              have hwp := draw_sim (id := id) E (fun w1 E1 => noRd_ok (S2 w1 E1)) (noRd_no rec) hok hdr hnt hT H
              obtain ⟨ex, a1, w1, hq, harr⟩ := hwp b K cs
              cases ex with
              | normal =>
                obtain ⟨m1, H1, P1, T1, hsz, hdf⟩ := hq
                exact (Fin.of_steps harr (S1 w0 E _ _ _ _ _ _ _ e F b _ a1 cs w1 m1 hrs (by rw [hsz]; exact hnt) hk T1 (by rw [hdf]; exact hD.mono P1.le) H1)).mono fun v w hr => RR.trans P1 hr
              | _ => exact hq.elim

theorem dead_sim : SOk P md C w0 dead := fun rs items t ds h v h' e => by cases e

theorem dead_simR : SOkR P md C w0 dead := fun items t h v h' e => by cases e
theorem Q_simB : ∀ n, (∀ w1, Env P md C w1 → SOk P md C w1 (Q C n)) ∧ ∀ w1, Env P md C w1 → SOkR P md C w1 (Q C n)
  | 0 => ⟨fun _ _ => dead_sim, fun _ _ => dead_simR⟩
  | n + 1 => ⟨fun _ E => step_sim E (Q_simB n).1 (Q_simB n).1 (Q_simB n).2, fun _ E => step_simR E (Q_simB n).1 (Q_simB n).2 (Q_simB n).2⟩
theorem Q_sim : ∀ n w1, Env P md C w1 → SOk P md C w1 (Q C n) := fun n => (Q_simB n).1

/-- the whole: what the abstract machine says of a call holds of the model's call -/
theorem D_sim (E : Env P md C w0) {f : FuncId} (hf : f ≠ fYield ∧ f ≠ fTake) {args args' : List Value} {h h' : AHeap} {v : Value} {m : Mu} {w : World} (e : D C f args h = some (v, h'))
    (hu : args.any isUnd = false) (hr : VRelL m args args') (H : HRel m w0 h w) : Upon P (RR m w0 h v h' True) ((callFunc f ⟨args'⟩).run P w) := by
  obtain ⟨n, hn⟩ := doCall_ex e
  exact callFunc_sim E (Q_sim n) hf hn hu hr H

theorem D_calls (E : Env P md C w0) {f : FuncId} {fn : AFn} (hT : C.T f = some (.fn fn)) {args args' : List Value} {h h' : AHeap} {v : Value} {m : Mu} {w : World} (e : D C f args h = some (v, h'))
    (hu : args.any isUnd = false) (hr : VRelL m args args') (H : HRel m w0 h w) : Calls P f ⟨args'⟩ w (retOnly (RR m w0 h v h' True)) := by
  have := D_sim E ⟨fun hh => (by rw [hh, E.free.1] at hT; cases hT), fun hh => (by rw [hh, E.free.2] at hT; cases hT)⟩ e hu hr H
  obtain ⟨F, hF, hc⟩ := E.fn f fn hT
  obtain ⟨c, r, hb, hres, hname, hfn⟩ := cFn_spec hc
  rw [run_callFunc hF hb hname] at this
  exact this.1
end
end Go.Ab

/- Stepping by equations. -/
namespace Go.Ab
section
variable {C : Ctx} {rs : List ARes} {k : List AItem} {t : List Value} {ds : List ADefer} {h : AHeap}

theorem R_seq {a b : ACode} : R C rs (.code (.seq a b) :: k) t ds h = R C rs (.code a :: .code b :: k) t ds h := by rw [R_step]; rfl
theorem R_skip : R C rs (.code .skip :: k) t ds h = R C rs k t ds h := by rw [R_step]; rfl
theorem R_block {id : Nat} {b : ACode} : R C rs (.code (.block id b) :: k) t ds h = R C rs (.code b :: .inBlock id :: k) t ds h := by rw [R_step]; rfl
theorem R_inBlock {id : Nat} : R C rs (.inBlock id :: k) t ds h = R C rs k t ds h := by rw [R_step]; rfl
theorem R_loop {b : ACode} : R C rs (.code (.loop b) :: k) t ds h = R C rs (.code b :: .inLoop b :: k) t ds h := by rw [R_step]; rfl
theorem R_inLoop {b : ACode} : R C rs (.inLoop b :: k) t ds h = R C rs (.code b :: .inLoop b :: k) t ds h := by rw [R_step]; rfl
theorem R_ops {l : List AOper} : R C rs (.code (.ops l) :: k) t ds h = R C rs (.ops l :: k) t ds h := by rw [R_step]; rfl
theorem R_nil : R C rs (.ops [] :: k) t ds h = R C rs k t ds h := by rw [R_step]; rfl
theorem R_draw {l : List AOper} : R C rs (.code (.draw l) :: k) t ds h = match drawRun C (noRd (R C)) l t h with
    | some (t', h') => R C rs k t' ds h'
    | none => none := by rw [R_step]; rfl
theorem R_cond {c : AArg} {a b : ACode} : R C rs (.code (.cond c a b) :: k) t ds h = match c.ev t with
    | .bool true => R C rs (.code a :: k) t ds h
    | .bool false => R C rs (.code b :: k) t ds h
    | _ => none := by rw [R_step]; rfl
theorem R_exit {id : Nat} : R C rs (.code (.exit id) :: k) t ds h = match aexitTo id k with
    | some k' => R C rs k' t ds h
    | none => match ds with
      | [] => if inRoundA k then some (.int .i64 (.ofNat (id + 1)), h) else none
      | _ => none := by rw [R_step]; rfl
theorem R_ret : R C rs (.code .ret :: k) t [] h = (resultsA C.old rs t h).map fun v => (v, h) := by rw [R_step]; rfl
theorem R_end : R C rs [] t [] h = (resultsA C.old rs t h).map fun v => (v, h) := by rw [R_step]; rfl
/-- an operation under a guard that says no -/
theorem R_off {o : AOper} {os : List AOper} (hw : wantedA t o.guard = false) : R C rs (.ops (o :: os) :: k) t ds h = R C rs (.ops os :: k) (putD t o.dst (.tuple #[])) ds h := by
  rw [R_step]
  simp only [stepM, hw]
  rfl
/-- an operation that calls nobody -/
theorem R_op {o : AOper} {os : List AOper} (hw : wantedA t o.guard = true) (hk : opK o.op = .plain) {v : Value} {h' : AHeap} (e : aexec C t h o.op = some (v, h')) (hu : isUnd v = false) :
    R C rs (.ops (o :: os) :: k) t ds h = R C rs (.ops os :: k) (putD t o.dst v) ds h' := by
  rw [R_step]
  simp only [stepM, hw, if_true, hk, exec1, e, resOk, hu, Bool.and_false, Bool.false_eq_true, if_false]
/-- an operation that yields nothing -/
theorem R_op0 {o : AOper} {os : List AOper} (hw : wantedA t o.guard = true) (hk : opK o.op = .plain) {v : Value} {h' : AHeap} (e : aexec C t h o.op = some (v, h')) (hd : o.dst = none) :
    R C rs (.ops (o :: os) :: k) t ds h = R C rs (.ops os :: k) t ds h' := by
  rw [R_step]
  simp only [stepM, hw, if_true, hk, exec1, e, resOk, pdst, hd, Option.isSome_none, Bool.false_and, Bool.false_eq_true, if_false, putD]
/-- a call -/
theorem R_call {o : AOper} {os : List AOper} (hw : wantedA t o.guard = true) (hk : opK o.op = .call) {f : FuncId} {args : List Value} (ht : target C t o.op = some (f, args)) {v : Value} {h' : AHeap}
    (e : D C f args h = some (v, h')) : R C rs (.ops (o :: os) :: k) t ds h = R C rs (.ops os :: k) (putD t o.dst v) ds h' := by
  rw [R_step]
  unfold D at e
  simp only [stepM, hw, if_true, hk, exec1, ht, e, resOk, pdst, Option.isSome_none, Bool.false_and, Bool.false_eq_true, if_false]
theorem R_if {c : AArg} {a b : ACode} {p : Bool} (hc : c.ev t = .bool p) : R C rs (.code (.cond c a b) :: k) t ds h = if p = true then R C rs (.code a :: k) t ds h else R C rs (.code b :: k) t ds h := by
  rw [R_cond, hc]
  cases p <;> rfl
theorem D_fn {f : FuncId} {body : ACode} {res : List ARes} (hT : C.T f = some (.fn { body, res, mode := 0 })) (args : List Value) : D C f args h = R C res [.code body] args [] h := by
  unfold D doCall
  rw [hT]
  rfl
end
end Go.Ab

/- The functions without a Go body. -/
namespace Go.Ab
section
variable {P : Program} {C : Ctx} {w1 : World} {f : FuncId} {F : Func}

structure IsExt (P : Program) (f : FuncId) (F : Func) (e : Array Value → Sem Value) : Prop where
  hf : P.funcs[f]? = some F
  name : (F.name == "runtime.NumGoroutine") = false
  body : F.body.isNone = true
  next : Extern.findNext F = none
  find : Extern.find F = some e

theorem IsExt.ok {e : Array Value → Sem Value} (I : IsExt P f F e) {x : Ext}
    (h : ∀ m h w args args' v h', VRelL m args args' → HRel m w1 h w → extExec C x args h = some (v, h') → ∃ v' w', (e ⟨args'⟩).run P w = .ok v' w' ∧ RR m w1 h v h' True v' w') : ExtOk P w1 C f x := by
  intro m hh w args args' v h' hr H he
  rw [run_callFunc_extern I.hf I.name I.body I.next I.find]
  obtain ⟨v', w', h1, h2⟩ := h m hh w args args' v h' hr H he
  rw [h1]
  exact h2

theorem ext_noEscape (I : IsExt P f F Extern.AbiNoEscape.same) : ExtOk P w1 C f .noEscape := by
  refine I.ok fun m h w args args' v h' hr H he => ?_
  match args, hr, he with
  | [x], hr, he =>
    obtain ⟨b, u, rfl, r1, r2⟩ := hr.uncons
    have hu := r2.nil_left
    subst hu
    simp only [extExec] at he
    split at he
    · cases he
    · rename_i hx
      cases he
      exact ⟨b, w, rfl, m, H, Post.refl _ _, r1, fun _ hv => absurd (isUnd_iff.2 hv) (by simpa using hx)⟩
  | [], hr, he => simp [extExec] at he
  | _ :: _ :: _, hr, he => simp [extExec] at he

theorem ext_indexByte (I : IsExt P f F Extern.BytealgIndexByte.indexByte) : ExtOk P w1 C f .indexByteStr := by
  refine I.ok fun m h w args args' v h' hr H he => ?_
  unfold extExec at he
  split at he <;> first | (rename_i heq; cases heq; done) | skip
  all_goals first | (cases he; done) | skip
  rename_i s c _
  cases he
  obtain ⟨b, u, rfl, r1, r2⟩ := hr.uncons
  obtain ⟨b2, u2, rfl, r3, r4⟩ := r2.uncons
  have hu := r4.nil_left
  subst hu
  cases r1; cases r3
  exact ⟨_, _, run_indexByte_string s c w, m, H, Post.refl _ _, .int _ _, fun _ hv => by cases hv⟩

theorem ext_count (I : IsExt P f F Extern.BytealgCount.count) : ExtOk P w1 C f .countStr := by
  refine I.ok fun m h w args args' v h' hr H he => ?_
  unfold extExec at he
  split at he <;> first | (rename_i heq; cases heq; done) | skip
  all_goals first | (cases he; done) | skip
  rename_i s c _
  cases he
  obtain ⟨b, u, rfl, r1, r2⟩ := hr.uncons
  obtain ⟨b2, u2, rfl, r3, r4⟩ := r2.uncons
  have hu := r4.nil_left
  subst hu
  cases r1; cases r3
  exact ⟨_, w, rfl, m, H, Post.refl _ _, .int _ _, fun _ hv => by cases hv⟩

theorem run_mark (k : Mark) (w : World) : (Extern.Race.none_ |> fun v => (do mark k; pure v : Sem Value)).run P w = .ok Extern.Race.none_ w := rfl
/-- nothing is done, and no argument is taken -/
theorem ext_nop0 {k : Mark} (I : IsExt P f F (fun _ => do mark k; pure Extern.Race.none_)) : ExtOk P w1 C f (.nop 0) := by
  refine I.ok fun m h w args args' v h' hr H he => ?_
  match args, he with
  | [], he =>
    cases he
    exact ⟨_, w, rfl, m, H, Post.refl _ _, .any _, fun _ _ => rfl⟩
/-- nothing is done with an address -/
theorem ext_nop1 {k : Addr → Mark} (I : IsExt P f F (Extern.Race.marked k)) : ExtOk P w1 C f (.nop 1) := by
  refine I.ok fun m h w args args' v h' hr H he => ?_
  match args, hr, he with
  | [.pointer (some a)], hr, he =>
    cases he
    obtain ⟨b, u, rfl, r1, r2⟩ := hr.uncons
    have hu := r2.nil_left
    subst hu
    cases r1 <;> exact ⟨_, w, rfl, m, H, Post.refl _ _, .any _, fun _ _ => rfl⟩
theorem digits_size : ∀ (n t : Nat) (acc : Array Value), (Extern.BytealgMakeNoZero.digits n t acc).size = acc.size + n
  | 0, _, acc => by simp [Extern.BytealgMakeNoZero.digits]
  | n + 1, t, acc => by
    simp only [Extern.BytealgMakeNoZero.digits]
    rw [digits_size n]
    simp; omega

theorem ext_makeNoZero {ps rs : Array TypeId} {t e : TypeId} (I : IsExt P f F (Extern.BytealgMakeNoZero.makeNoZero ps rs)) (h1 : rs[0]? = some t) (h2 : P.underlying t = some (.slice e)) : ExtOk P w1 C f (.makeNoZero e) := by
  refine I.ok fun m h w args args' v h' hr H he => ?_
  unfold extExec at he
  split at he <;> first | (rename_i heq; cases heq; done) | skip
  all_goals first | (cases he; done) | skip
  rename_i e0 n heq
  cases heq
  split at he
  · rename_i hn
    obtain ⟨hn0, hn1⟩ := hn
    cases he
    obtain ⟨b, u, rfl, r1, r2⟩ := hr.uncons
    have hu := r2.nil_left
    subst hu
    cases r1
    have hlim : sizeLim = 2 ^ 40 := rfl
    have c1 : (n < 0 || n > 2 ^ 48) = false := by simp; omega
    generalize hcap : (Question.appendCap n.toNat 0 e).cut (w.tape w.drawn (.appendCap n.toNat 0 e)) = cap
    have hge : n.toNat ≤ cap := by rw [← hcap]; simp [Question.cut]
    have hf1 : (Question.appendCap n.toNat 0 e).forced = false := rfl
    have hf2 : (Question.extern "internal/bytealg.MakeNoZero.bytes" 0).forced = false := rfl
    have hrun : ∃ bts dr, (Extern.BytealgMakeNoZero.makeNoZero ps rs ⟨[.int .i64 n]⟩).run P w = .ok (.slice (some ⟨w.heap.size, 0, none⟩) n.toNat cap)
        (({ w with drawn := dr } : World).alloc (.cells (Extern.BytealgMakeNoZero.digits cap bts #[]) e)) := by
      refine ⟨(Question.extern "internal/bytealg.MakeNoZero.bytes" 0).cut (w.tape (w.drawn + 1) (.extern "internal/bytealg.MakeNoZero.bytes" 0)), w.drawn + 1 + 1, ?_⟩
      show (do
        let some t := rs[0]? | stuck "bytealg.MakeNoZero: no result type"
        let .slice elem ← underlying t | stuck "bytealg.MakeNoZero: slice type expected"
        if n < 0 || n > 2 ^ 48 then runtimePanic (.error "makeslice: len out of range")
        let cap ← choose (.appendCap n.toNat 0 elem)
        askRoom cap
        let bytes ← choose (.extern "internal/bytealg.MakeNoZero.bytes" 0)
        let a ← newRow elem (Extern.BytealgMakeNoZero.digits cap bytes #[])
        pure (.slice (some a) n.toNat cap) : Sem Value).run P w = _
      simp only [h1, Sem.run_bind, run_under h2, Result.andThen_ok, c1, Bool.false_eq_true, if_false, Sem.run_pure, run_choose, hf1, hf2, run_askRoom, newRow, run_newObj, hcap]
      rfl
    obtain ⟨bts, dr, hrun⟩ := hrun
    have hds : (Extern.BytealgMakeNoZero.digits cap bts #[]).size = cap := by rw [digits_size]; simp
    obtain ⟨g1, g2⟩ := (H.drew dr).push (blk := .grow (List.replicate n.toNat (.tuple #[])) 0 (e + 1) 1) (o := .cells (Extern.BytealgMakeNoZero.digits cap bts #[]) e) (t := n.toNat + 1) (sz := cap) (k := 1)
      ⟨rfl, by omega, by omega, by simp, by omega, _, e, 0, 0, rfl, hds, by omega, fun _ => by
        have hl : (Extern.BytealgMakeNoZero.digits cap bts #[]).toList.length = cap := by simpa using hds
        refine ⟨by simp [hds]; omega, fun i a b ha hb => ?_⟩
        have : a = .tuple #[] := by
          have hm := List.mem_of_getElem? ha
          exact (List.mem_replicate.1 (List.mem_of_mem_take hm)).2
        rw [this]; exact .any _, fun _ => ⟨rfl, fun _ => free_zero _⟩⟩
    exact ⟨_, _, hrun, _, g1, g2, .slRest 0 n.toNat cap (Mu.set_self _ _ _ _) (by omega) hge, fun _ hv => by cases hv⟩
  · cases he

theorem cFn_self {P : Program} {md : FuncId → Bool} {F : Func} {k : Nat} (h : (cFn P md F k).isSome = true) :
    cFn P md F ((cFn P md F k).getD default).mode = some ((cFn P md F k).getD default) := by
  cases hc : cFn P md F k with
  | none => rw [hc] at h; cases h
  | some x =>
    obtain ⟨c, r, _, _, _, hx⟩ := cFn_spec hc
    have : x.mode = k := by rw [hx]
    simp only [Option.getD_some, this, hc]
end

/-- cells that stand for themselves -/
def okOld : Value → Bool
  | .bool _ | .int _ _ | .string _ | .float _ _ | .nilFunc | .nilIface | .pointer none | .slice none 0 0 | .map none => true
  | .pointer (some a) => a.spot.isNone
  | .slice (some a) _ _ => a.spot.isNone
  | _ => false
def oldV (v : Value) : Option Value := if okOld v then some v else match v with
  | .slice (some _) 0 0 => some emptySl
  | _ => none
def oldOf (W : World) : Old := fun b o => match W.cell? ⟨b, o, none⟩ with
  | some v => oldV v
  | none => none
theorem okOld_self {v : Value} (h : okOld v = true) (m : Mu) : VRel m v v := by
  unfold okOld at h
  split at h
  all_goals first | (cases h; done) | skip
  · exact .bool _
  · exact .int _ _
  · exact .string _
  · exact .float _ _
  · exact .nilFunc
  · exact .nilIface
  · exact .ptrNil
  · exact .slNil
  · exact .mapNil
  · exact .ptrOld _ (by simpa using h)
  · exact .slOld _ _ _ (by simpa using h)
theorem oldV_rel {v x : Value} (h : oldV v = some x) (m : Mu) : VRel m x v := by
  unfold oldV at h
  split at h
  · rename_i hk; cases h; exact okOld_self hk m
  · split at h
    · cases h; exact .slEmpty _ _ _
    · cases h
theorem oldOf_ok (W : World) : OldOk (oldOf W) W := by
  intro b o v h
  unfold oldOf at h
  split at h
  · rename_i x hx
    exact ⟨x, hx, fun m => oldV_rel h m⟩
  · cases h
theorem oldOf_of {W : World} {b o : Nat} {v : Value} (h : W.cell? ⟨b, o, none⟩ = some v) (hk : okOld v = true) : oldOf W b o = some v := by
  unfold oldOf
  rw [h]
  simp [oldV, hk]
end Go.Ab

/- From a call that the abstract machine tells to what a row asks. -/
namespace Go.Ab
open Go.RowKit Go.ChangeShapes
theorem HRel.below {m : Mu} {w0 w : World} {h : AHeap} (H : HRel m w0 h w) : Below w0.heap.size w0 w := ⟨H.os, H.tape, H.output, H.base, H.old⟩

section
variable {H : Type} {enc : TypeId × Value → H} {P : Program} {t : TypeId}
theorem arg_below (hl : laidOutB P = true) (hr : P.readableRec t = true) (hrow : t < P.types.size) {W W' : World} {v : Value} {d : DataW H} {ps : List MemPlace}
    (h : DataW.Trod enc P W 0 (fun _ => true) true t v d ps) (hb : Below W.heap.size W W') (hlt : ∀ x ∈ ps, x.block < W.heap.size) (sp : Nat → Bool) (hsp : ∀ x ∈ ps, sp x.block = true) :
    DataW.Trod enc P W' 0 sp true t v d ps :=
  WideElems.Trod_stays hl hr hrow h (fun x hx => hb.same (hlt x hx)) hsp

/-- one argument that reads as it did, one answer, and below what was there nothing has turned -/
theorem post_below {f : Func} {s : ChangeSpec} {apart fresh handsOn again : Bool} {W W' : World} {args : Array Value} {v : Value} {ds gs : List (DataW H)} {before pa pv : List MemPlace}
    (hW : DataW.Whole enc P f.params.toList s.vars apart W args.toList ds gs before)
    (hres : ∀ (b : Nat) (sp : Nat → Bool) (hd : Bool), DataW.TrodAll enc P W' b sp hd f.resultTypes.toList (v.resultList f.resultTypes.size) (s.fn H (ds ++ gs)).results [])
    (hargs : ∀ sp : Nat → Bool, (∀ p ∈ before, sp p.block = true) → DataW.TrodAll enc P W' 0 sp true f.params.toList args.toList (s.fn H (ds ++ gs)).args pa)
    (hvars : ∀ sp : Nat → Bool, (∀ p ∈ before, sp p.block = true) → DataW.TrodVars enc P W' sp s.vars (s.fn H (ds ++ gs)).vars pv)
    (hps : before = pa ++ pv) (hb : Below W.heap.size W W')
    (hok : ∀ (j : Nat) (t : TypeId) (r : Value), f.resultTypes[j]? = some t → (v.resultList f.resultTypes.size)[j]? = some r → Value.okWide P W' .any 0 t r) :
    s.post enc P f apart fresh handsOn again W args v W' := by
  have hold : ∀ p ∈ before, (fun b => decide (b < W.heap.size)) p.block = true := fun p hp => by simpa using hW.lt p hp
  refine ⟨ds, gs, before, [], pa, pv, hW, hres _ _ _, hargs _ hold, hvars _ hold, World.keptBut_mono (fun p hp => ⟨hp, ?_⟩) (hb.frame (· ∈ before)), fun _ => ?_⟩
  · rw [hps, List.mem_append] at hp
    exact Or.inr hp
  · have hlt := hW.lt
    obtain ⟨_, _, _, _, _, hz, hn⟩ := hW
    refine ⟨hok, _, _, ([] ++ pa) ++ pv, ⟨[] ++ pa, pv, trodAll_append (hargs _ (fun _ _ => rfl)) (hres _ _ _), hvars _ (fun _ _ => rfl), rfl, ?_, ?_⟩, ?_⟩
    · intro b off hp
      have hp' : (.cell b off : MemPlace) ∈ before := by rw [hps]; simpa using hp
      rw [hb.frozen (hlt _ hp')]
      exact hz b off hp'
    · intro ha
      have := hn ha
      rw [hps] at this
      simpa using this
    · intro p hp _
      rw [hps]
      simpa using hp
end
end Go.Ab

/-
  Equations of the abstract machine for stepping through code, of its memory, and SHA-256 on lists; no condition.
-/
import Derived.Test.YtbcadgoemkjbeaaDoorAbC
import Derived.ChangeSlices
import Derived.OpenShut

set_option linter.unusedSimpArgs false
set_option linter.unusedVariables false
set_option linter.unusedSectionVars false

/- Stepping by simp: one equation for each kind of operation; what comes behind is not looked at before it is reached. -/
namespace Go.Ab
/-- an equation that holds by computing, but is not told so to simp -/
theorem nr {α : Sort _} {a b : α} (h : a = b) : a = b := h

/-- bind, of which simp looks at the first part alone -/
def bnd {α β : Type} (x : Option α) (f : α → Option β) : Option β := match x with
  | some a => f a
  | none => none
@[congr] theorem bnd_congr {α β : Type} {x y : Option α} {f : α → Option β} (h : x = y) : bnd x f = bnd y f := by rw [h]
@[simp] theorem bnd_some {α β : Type} {a : α} {f : α → Option β} : bnd (some a) f = f a := nr rfl
@[simp] theorem bnd_none {α β : Type} {f : α → Option β} : bnd none f = none := nr rfl
theorem bnd_eq {α β : Type} {x : Option α} {a : α} {f : α → Option β} (h : x = some a) : bnd x f = f a := by rw [h]; rfl
@[simp] theorem und_bool {b : Bool} : isUnd (.bool b) = false := nr rfl
@[simp] theorem und_int {k : IntKind} {b : Int} : isUnd (.int k b) = false := nr rfl
@[simp] theorem und_string {b : ByteArray} : isUnd (.string b) = false := nr rfl
@[simp] theorem und_pointer {b : Option Addr} : isUnd (.pointer b) = false := nr rfl
@[simp] theorem und_slice {b : Option Addr} {l c : Nat} : isUnd (.slice b l c) = false := nr rfl
@[simp] theorem und_map {b : Option Nat} : isUnd (.map b) = false := nr rfl
@[simp] theorem und_func {f : Fn} {a b : Array Value} : isUnd (.func f a b) = false := nr rfl
@[simp] theorem und_nilFunc : isUnd .nilFunc = false := nr rfl
@[simp] theorem und_iface {t : TypeId} {v : Value} : isUnd (.iface t v) = false := nr rfl
@[simp] theorem und_nilIface : isUnd .nilIface = false := nr rfl
@[simp] theorem und_agg {l : Array Value} : isUnd (.agg l) = false := nr rfl
@[simp] theorem und_tuple {a : Value} {l : List Value} : isUnd (.tuple ⟨a :: l⟩) = false := nr rfl
/-- where a value, or nothing, has been yielded: on with the rest -/
noncomputable def stp (C : Ctx) (rs : List ARes) (x : Res) (d : Option Nat) (os : List AOper) (k : List AItem) (t : List Value) (ds : List ADefer) : Res := match x with
  | some (v, h) => if d.isSome && isUnd v then none else R C rs (.ops os :: k) (putD t d v) ds h
  | none => none
/-- behind a call -/
noncomputable def cal (C : Ctx) (rs : List ARes) (x : Res) (d : Option Nat) (os : List AOper) (k : List AItem) (t : List Value) (ds : List ADefer) : Res := match x with
  | some (v, h) => R C rs (.ops os :: k) (putD t d v) ds h
  | none => none
/-- at a condition -/
noncomputable def cnd (C : Ctx) (rs : List ARes) (v : Value) (a b : ACode) (k : List AItem) (t : List Value) (ds : List ADefer) (h : AHeap) : Res := match v with
  | .bool true => R C rs (.code a :: k) t ds h
  | .bool false => R C rs (.code b :: k) t ds h
  | _ => none
/-- under a guard -/
noncomputable def grd (C : Ctx) (rs : List ARes) (v : Value) (w : Bool) (d : Option Nat) (op : AOp) (u : List Nat) (os : List AOper) (k : List AItem) (t : List Value) (ds : List ADefer) (h : AHeap) : Res := match v with
  | .bool b => if b == w then R C rs (.ops (⟨d, none, op, u⟩ :: os) :: k) t ds h else R C rs (.ops os :: k) (putD t d (.tuple #[])) ds h
  | _ => R C rs (.ops os :: k) (putD t d (.tuple #[])) ds h
section
variable {C : Ctx} {rs : List ARes} {v : Value} {h : AHeap} {a b : ACode} {dn : Option Nat} {d : Nat} {os : List AOper} {k : List AItem} {t : List Value} {ds : List ADefer} {op : AOp} {u : List Nat} {x : Res} {w : Bool}
theorem stp_ok (hu : isUnd v = false) : stp C rs (some (v, h)) (some d) os k t ds = R C rs (.ops os :: k) (ts t d v) ds h := by simp [stp, hu, putD]
@[simp] theorem stp_no : stp C rs (some (v, h)) none os k t ds = R C rs (.ops os :: k) t ds h := by simp [stp, putD]
@[simp] theorem stp_bool {b : Bool} : stp C rs (some (.bool b, h)) (some d) os k t ds = R C rs (.ops os :: k) (ts t d (.bool b)) ds h := stp_ok rfl
@[simp] theorem stp_int {q : IntKind} {b : Int} : stp C rs (some (.int q b, h)) (some d) os k t ds = R C rs (.ops os :: k) (ts t d (.int q b)) ds h := stp_ok rfl
@[simp] theorem stp_string {b : ByteArray} : stp C rs (some (.string b, h)) (some d) os k t ds = R C rs (.ops os :: k) (ts t d (.string b)) ds h := stp_ok rfl
@[simp] theorem stp_pointer {b : Option Addr} : stp C rs (some (.pointer b, h)) (some d) os k t ds = R C rs (.ops os :: k) (ts t d (.pointer b)) ds h := stp_ok rfl
@[simp] theorem stp_slice {b : Option Addr} {l c : Nat} : stp C rs (some (.slice b l c, h)) (some d) os k t ds = R C rs (.ops os :: k) (ts t d (.slice b l c)) ds h := stp_ok rfl
@[simp] theorem stp_map {b : Option Nat} : stp C rs (some (.map b, h)) (some d) os k t ds = R C rs (.ops os :: k) (ts t d (.map b)) ds h := stp_ok rfl
@[simp] theorem stp_func {f : Fn} {a b : Array Value} : stp C rs (some (.func f a b, h)) (some d) os k t ds = R C rs (.ops os :: k) (ts t d (.func f a b)) ds h := stp_ok rfl
@[simp] theorem stp_nilFunc : stp C rs (some (.nilFunc, h)) (some d) os k t ds = R C rs (.ops os :: k) (ts t d .nilFunc) ds h := stp_ok rfl
@[simp] theorem stp_iface {e : TypeId} {x : Value} : stp C rs (some (.iface e x, h)) (some d) os k t ds = R C rs (.ops os :: k) (ts t d (.iface e x)) ds h := stp_ok rfl
@[simp] theorem stp_nilIface : stp C rs (some (.nilIface, h)) (some d) os k t ds = R C rs (.ops os :: k) (ts t d .nilIface) ds h := stp_ok rfl
@[simp] theorem stp_agg {l : Array Value} : stp C rs (some (.agg l, h)) (some d) os k t ds = R C rs (.ops os :: k) (ts t d (.agg l)) ds h := stp_ok rfl
@[simp] theorem stp_tuple {a : Value} {l : List Value} : stp C rs (some (.tuple ⟨a :: l⟩, h)) (some d) os k t ds = R C rs (.ops os :: k) (ts t d (.tuple ⟨a :: l⟩)) ds h := stp_ok rfl
@[simp] theorem stp_none : stp C rs none dn os k t ds = none := rfl
@[simp] theorem cal_some : cal C rs (some (v, h)) dn os k t ds = R C rs (.ops os :: k) (putD t dn v) ds h := nr rfl
@[simp] theorem cal_none : cal C rs none dn os k t ds = none := nr rfl
theorem cal_eq (e : x = some (v, h)) : cal C rs x dn os k t ds = R C rs (.ops os :: k) (putD t dn v) ds h := by rw [e]; rfl
@[simp] theorem cnd_true : cnd C rs (.bool true) a b k t ds h = R C rs (.code a :: k) t ds h := nr rfl
@[simp] theorem cnd_false : cnd C rs (.bool false) a b k t ds h = R C rs (.code b :: k) t ds h := nr rfl
theorem cnd_pos {p : Prop} [Decidable p] (e : p) : cnd C rs (.bool (decide p)) a b k t ds h = R C rs (.code a :: k) t ds h := by rw [decide_eq_true e]; rfl
theorem cnd_neg {p : Prop} [Decidable p] (e : ¬p) : cnd C rs (.bool (decide p)) a b k t ds h = R C rs (.code b :: k) t ds h := by rw [decide_eq_false e]; rfl
theorem cnd_if {p : Bool} : cnd C rs (.bool p) a b k t ds h = if p = true then R C rs (.code a :: k) t ds h else R C rs (.code b :: k) t ds h := by cases p <;> rfl
@[simp] theorem grd_yes : grd C rs (.bool w) w dn op u os k t ds h = R C rs (.ops (⟨dn, none, op, u⟩ :: os) :: k) t ds h := by simp [grd]
@[simp] theorem grd_tf : grd C rs (.bool true) false dn op u os k t ds h = R C rs (.ops os :: k) (putD t dn (.tuple #[])) ds h := nr rfl
@[simp] theorem grd_ft : grd C rs (.bool false) true dn op u os k t ds h = R C rs (.ops os :: k) (putD t dn (.tuple #[])) ds h := nr rfl
end
/-- a call whose arguments are all there -/
noncomputable def Dc (C : Ctx) (f : FuncId) (l : List Value) (h : AHeap) : Res := if l.any isUnd then none else D C f l h
theorem Dc_ok {C : Ctx} {f : FuncId} {l : List Value} {h : AHeap} (hl : l.any isUnd = false) : Dc C f l h = D C f l h := by unfold Dc; simp [hl]
theorem Dc0 {C : Ctx} {f : FuncId} {h : AHeap} : Dc C f [] h = D C f [] h := rfl
theorem Dc1 {C : Ctx} {f : FuncId} {h : AHeap} {a : Value} (ha : isUnd a = false) : Dc C f [a] h = D C f [a] h := Dc_ok (by simp [ha])
theorem Dc2 {C : Ctx} {f : FuncId} {h : AHeap} {a b : Value} (ha : isUnd a = false) (hb : isUnd b = false) : Dc C f [a, b] h = D C f [a, b] h := Dc_ok (by simp [ha, hb])
theorem Dc3 {C : Ctx} {f : FuncId} {h : AHeap} {a b c : Value} (ha : isUnd a = false) (hb : isUnd b = false) (hc : isUnd c = false) : Dc C f [a, b, c] h = D C f [a, b, c] h := Dc_ok (by simp [ha, hb, hc])
theorem Dc4 {C : Ctx} {f : FuncId} {h : AHeap} {a b c d : Value} (ha : isUnd a = false) (hb : isUnd b = false) (hc : isUnd c = false) (hd : isUnd d = false) : Dc C f [a, b, c, d] h = D C f [a, b, c, d] h := Dc_ok (by simp [ha, hb, hc, hd])
theorem Dc5 {C : Ctx} {f : FuncId} {h : AHeap} {a b c d e : Value} (ha : isUnd a = false) (hb : isUnd b = false) (hc : isUnd c = false) (hd : isUnd d = false) (he : isUnd e = false) : Dc C f [a, b, c, d, e] h = D C f [a, b, c, d, e] h := Dc_ok (by simp [ha, hb, hc, hd, he])

attribute [congr] Option.map_congr
theorem R_congr {C : Ctx} {rs : List ARes} {items : List AItem} {t t' : List Value} {ds : List ADefer} {h h' : AHeap} (e : t = t') (e' : h = h') : R C rs items t ds h = R C rs items t' ds h' := by rw [e, e']
attribute [congr] R_congr

section
variable {C : Ctx} {rs : List ARes} {k : List AItem} {t : List Value} {ds : List ADefer} {h : AHeap} {os : List AOper} {d : Nat} {u : List Nat}

theorem S_guard {dst : Option Nat} {g : Nat} {w : Bool} {op : AOp} : R C rs (.ops (⟨dst, some (g, w), op, u⟩ :: os) :: k) t ds h =
    grd C rs (tg t g) w dst op u os k t ds h := by
  cases hv : tg t g with
  | bool b =>
    by_cases hb : b = w
    · subst hb
      simp only [grd_yes]
      rw [R_step, R_step (items := .ops (⟨dst, none, op, u⟩ :: os) :: k)]
      simp only [stepM, wantedA, hv, beq_self_eq_true, if_true]
      cases ho : opK op <;> simp only [pdst, ho]
    · have : (b == w) = false := by simpa using hb
      simp only [grd, this, Bool.false_eq_true, if_false]
      exact R_off (by simp [wantedA, hv, this])
  | _ => exact R_off (by simp [wantedA, hv])
theorem S_plain {op : AOp} {dst : Option Nat} (hk : opK op = .plain) : R C rs (.ops (⟨dst, none, op, u⟩ :: os) :: k) t ds h = stp C rs (aexec C t h op) dst os k t ds := by
  rw [R_step]
  simp only [stepM, wantedA, if_true, hk, exec1]
  cases aexec C t h op with
  | none => rfl
  | some p =>
    obtain ⟨v, h'⟩ := p
    simp only [resOk, pdst, hk, stp]
    cases dst.isSome && isUnd v <;> rfl
theorem S_call {dst : Option Nat} {f : FuncId} {args : List AArg} : R C rs (.ops (⟨dst, none, .call f args, u⟩ :: os) :: k) t ds h =
    cal C rs (Dc C f (args.map (·.ev t)) h) dst os k t ds := by
  rw [R_step]
  simp only [stepM, wantedA, if_true, opK, exec1, target, okArgs, Dc, D]
  cases hu : (args.map (·.ev t)).any isUnd with
  | true => simp only [if_true]; rfl
  | false =>
    simp only [Bool.false_eq_true, if_false]
    cases doCall C (R C) f (args.map (·.ev t)) h with
    | none => rfl
    | some p => obtain ⟨v, h'⟩ := p; simp [resOk, pdst, opK]
/-- a call by a function's value -/
noncomputable def Dv (C : Ctx) (f : Value) (l : List Value) (h : AHeap) : Res := match f with
  | .func (.func f) first cap => Dc C f (first.toList ++ l ++ cap.toList) h
  | _ => none
theorem S_callv {dst : Option Nat} {x : AArg} {args : List AArg} : R C rs (.ops (⟨dst, none, .callv x args, u⟩ :: os) :: k) t ds h =
    cal C rs (Dv C (x.ev t) (args.map (·.ev t)) h) dst os k t ds := by
  rw [R_step]
  simp only [stepM, wantedA, if_true, opK, exec1, target]
  unfold Dv
  cases hx : x.ev t with
  | func f first cap =>
    cases f with
    | func f =>
      simp only [okArgs, Dc, D]
      cases hu : (first.toList ++ args.map (·.ev t) ++ cap.toList).any isUnd with
      | true => simp only [if_true]; rfl
      | false =>
        simp only [Bool.false_eq_true, if_false]
        cases doCall C (R C) f (first.toList ++ args.map (·.ev t) ++ cap.toList) h with
        | none => rfl
        | some p => obtain ⟨v, h'⟩ := p; simp [resOk, pdst, opK]
    | _ => rfl
  | _ => rfl
/-- a call that is put off -/
noncomputable def dfrS (C : Ctx) (rs : List ARes) (f : Value) (l : List Value) (d : Option Nat) (os : List AOper) (k : List AItem) (t : List Value) (ds : List ADefer) (h : AHeap) : Res := match f with
  | .func (.func f) first cap => match C.T f with
    | some (.fn _) => if (first.toList ++ l ++ cap.toList).any isUnd then none else R C rs (.ops os :: k) (putD t d (.tuple #[])) (⟨f, first.toList ++ l ++ cap.toList⟩ :: ds) h
    | _ => none
  | _ => none
theorem S_defer {dst : Option Nat} {x : AArg} {args : List AArg} : R C rs (.ops (⟨dst, none, .defer x args, u⟩ :: os) :: k) t ds h = dfrS C rs (x.ev t) (args.map (·.ev t)) dst os k t ds h := by
  rw [R_step]
  simp only [stepM, wantedA, if_true, opK, target]
  unfold dfrS
  cases hx : x.ev t with
  | func f first cap =>
    cases f with
    | func f =>
      simp only
      cases hT : C.T f with
      | none => rfl
      | some g =>
        cases g with
        | ext e => rfl
        | fn fn =>
          simp only [okArgs]
          cases hu : (first.toList ++ args.map (·.ev t) ++ cap.toList).any isUnd with
          | true => rfl
          | false => rfl
    | _ => rfl
  | _ => rfl
theorem dfrS_ok {f : FuncId} {fn : AFn} {first cap : Array Value} {l : List Value} {dst : Option Nat} (hT : C.T f = some (.fn fn)) (hl : (first.toList ++ l ++ cap.toList).any isUnd = false) :
    dfrS C rs (.func (.func f) first cap) l dst os k t ds h = R C rs (.ops os :: k) (putD t dst (.tuple #[])) (⟨f, first.toList ++ l ++ cap.toList⟩ :: ds) h := by
  simp only [dfrS, hT, hl, Bool.false_eq_true, if_false]
theorem S_cond {c : AArg} {a b : ACode} : R C rs (.code (.cond c a b) :: k) t ds h = cnd C rs (c.ev t) a b k t ds h := by
  rw [R_cond]; rfl
/-- one round more, the loop's own name kept -/
theorem R_open {b b' : ACode} (e : b = b') : R C rs (.inLoop b :: k) t ds h = R C rs (.code b' :: .inLoop b :: k) t ds h := by rw [R_inLoop, ← e]
theorem ex_step {α : Type} {A A' : List AItem → Res} {B : α → List AItem → Res} {F : α → Prop} (h : ∀ k, A k = A' k) (g : ∃ t', (∀ k, A' k = B t' k) ∧ F t') : ∃ t', (∀ k, A k = B t' k) ∧ F t' := by
  obtain ⟨t', g1, g2⟩ := g
  exact ⟨t', fun k => (h k).trans (g1 k), g2⟩
theorem ex_step0 {α : Type} {A A' : List AItem → Res} {B : α → List AItem → Res} (h : ∀ k, A k = A' k) (g : ∃ t', ∀ k, A' k = B t' k) : ∃ t', ∀ k, A k = B t' k := by
  obtain ⟨t', g1⟩ := g
  exact ⟨t', fun k => (h k).trans (g1 k)⟩
theorem ex_cps {α : Type} {A : List AItem → Res} {B : α → List AItem → Res} {F : α → Prop} {Z : Res} {k : List AItem} (h : ∃ t', (∀ k, A k = B t' k) ∧ F t') (g : ∀ t', F t' → B t' k = Z) : A k = Z := by
  obtain ⟨t', g1, g2⟩ := h
  exact (g1 k).trans (g t' g2)
theorem ex_cps0 {α : Type} {A : List AItem → Res} {B : α → List AItem → Res} {Z : Res} {k : List AItem} (h : ∃ t', (∀ k, A k = B t' k)) (g : ∀ t', B t' k = Z) : A k = Z := by
  obtain ⟨t', g1⟩ := h
  exact (g1 k).trans (g t')
theorem S_loop {b : ACode} : R C rs (.code (.loop b) :: k) t ds h = R C rs (.inLoop b :: k) t ds h := by rw [R_loop, R_inLoop]
/-- behind an exit; out of a round there is nothing to go to -/
noncomputable def xit (C : Ctx) (rs : List ARes) (x : Option (List AItem)) (id : Nat) (k : List AItem) (t : List Value) (ds : List ADefer) (h : AHeap) : Res := match x with
  | some k' => R C rs k' t ds h
  | none => match ds with
    | [] => if inRoundA k then some (.int .i64 (.ofNat (id + 1)), h) else none
    | _ => none
theorem xit_congr {C : Ctx} {rs : List ARes} {x y : Option (List AItem)} {id : Nat} {k : List AItem} {t : List Value} {ds : List ADefer} {h : AHeap} (e : x = y) : xit C rs x id k t ds h = xit C rs y id k t ds h := by rw [e]
attribute [congr] xit_congr
@[simp] theorem xit_some {k' : List AItem} {id : Nat} : xit C rs (some k') id k t ds h = R C rs k' t ds h := nr rfl
theorem xit_none {id : Nat} (hk : inRoundA k = true) : xit C rs none id k t [] h = some (.int .i64 (.ofNat (id + 1)), h) := by simp [xit, hk]
theorem S_exit {id : Nat} : R C rs (.code (.exit id) :: k) t ds h = xit C rs (aexitTo id k) id k t ds h := by
  rw [R_exit]; rfl
theorem R_label {l : Nat} : R C rs (.code (.label l) :: k) t ds h = R C rs k t ds h := by rw [R_step]; rfl
theorem R_scope {b : ACode} : R C rs (.code (.scope b) :: k) t ds h = R C rs (.code b :: .inScope b :: k) t ds h := by rw [R_step]; rfl
theorem R_inScope {b : ACode} : R C rs (.inScope b :: k) t ds h = R C rs k t ds h := by rw [R_step]; rfl
theorem S_goto {l : Nat} : R C rs (.code (.goto l) :: k) t ds h = bnd (agotoIn l k) fun k' => R C rs k' t ds h := by
  rw [R_step]
  simp only [stepM]
  cases agotoIn l k <;> rfl
theorem S_pick {x y z : AArg} {dst : Option Nat} : R C rs (.ops (⟨dst, none, .pick x y z, u⟩ :: os) :: k) t ds h = stp C rs (aexec C t h (.pick x y z)) dst os k t ds := S_plain rfl
theorem S_box {e : TypeId} {x : AArg} {dst : Option Nat} : R C rs (.ops (⟨dst, none, .box e x, u⟩ :: os) :: k) t ds h = stp C rs (aexec C t h (.box e x)) dst os k t ds := S_plain rfl
theorem S_build {z : List Value} {ps : List (Nat × Nat × AArg)} {dst : Option Nat} : R C rs (.ops (⟨dst, none, .build z ps, u⟩ :: os) :: k) t ds h = stp C rs (aexec C t h (.build z ps)) dst os k t ds := S_plain rfl
theorem S_buildSlice {e : TypeId} {z : List Value} {n : Nat} {ps : List (Nat × Nat × AArg)} {dst : Option Nat} : R C rs (.ops (⟨dst, none, .buildSlice e z n ps, u⟩ :: os) :: k) t ds h = stp C rs (aexec C t h (.buildSlice e z n ps)) dst os k t ds := S_plain rfl
theorem S_load1 {x : AArg} {dst : Option Nat} : R C rs (.ops (⟨dst, none, .load1 x, u⟩ :: os) :: k) t ds h = stp C rs (aexec C t h (.load1 x)) dst os k t ds := S_plain rfl
theorem S_loadN {n : Nat} {x : AArg} {dst : Option Nat} : R C rs (.ops (⟨dst, none, .loadN n x, u⟩ :: os) :: k) t ds h = stp C rs (aexec C t h (.loadN n x)) dst os k t ds := S_plain rfl
theorem S_nilCheck {x : AArg} {dst : Option Nat} : R C rs (.ops (⟨dst, none, .nilCheck x, u⟩ :: os) :: k) t ds h = stp C rs (aexec C t h (.nilCheck x)) dst os k t ds := S_plain rfl
theorem S_convStr {x : AArg} {dst : Option Nat} : R C rs (.ops (⟨dst, none, .convStr x, u⟩ :: os) :: k) t ds h = stp C rs (aexec C t h (.convStr x)) dst os k t ds := S_plain rfl
theorem S_str2bytes {e : TypeId} {x : AArg} {dst : Option Nat} : R C rs (.ops (⟨dst, none, .str2bytes e x, u⟩ :: os) :: k) t ds h = stp C rs (aexec C t h (.str2bytes e x)) dst os k t ds := S_plain rfl
theorem S_bytes2str {x : AArg} {dst : Option Nat} : R C rs (.ops (⟨dst, none, .bytes2str x, u⟩ :: os) :: k) t ds h = stp C rs (aexec C t h (.bytes2str x)) dst os k t ds := S_plain rfl
theorem S_rune2str {x : AArg} {dst : Option Nat} : R C rs (.ops (⟨dst, none, .rune2str x, u⟩ :: os) :: k) t ds h = stp C rs (aexec C t h (.rune2str x)) dst os k t ds := S_plain rfl
theorem S_mkIface {e : TypeId} {x : AArg} {dst : Option Nat} : R C rs (.ops (⟨dst, none, .mkIface e x, u⟩ :: os) :: k) t ds h = stp C rs (aexec C t h (.mkIface e x)) dst os k t ds := S_plain rfl
theorem S_mkFunc {f : FuncId} {l l' : List AArg} {dst : Option Nat} : R C rs (.ops (⟨dst, none, .mkFunc f l l', u⟩ :: os) :: k) t ds h = stp C rs (aexec C t h (.mkFunc f l l')) dst os k t ds := S_plain rfl
theorem S_mkMap  {dst : Option Nat} : R C rs (.ops (⟨dst, none, .mkMap, u⟩ :: os) :: k) t ds h = stp C rs (aexec C t h (.mkMap)) dst os k t ds := S_plain rfl
theorem S_mkSlice {e : TypeId} {n n' : Nat} {z : List Value} {x y : AArg} {dst : Option Nat} : R C rs (.ops (⟨dst, none, .mkSlice e n n' z x y, u⟩ :: os) :: k) t ds h = stp C rs (aexec C t h (.mkSlice e n n' z x y)) dst os k t ds := S_plain rfl
theorem S_sliceStr {x : AArg} {y z : Option AArg} {dst : Option Nat} : R C rs (.ops (⟨dst, none, .sliceStr x y z, u⟩ :: os) :: k) t ds h = stp C rs (aexec C t h (.sliceStr x y z)) dst os k t ds := S_plain rfl
theorem S_sliceSl {n : Nat} {x : AArg} {y z w : Option AArg} {dst : Option Nat} : R C rs (.ops (⟨dst, none, .sliceSl n x y z w, u⟩ :: os) :: k) t ds h = stp C rs (aexec C t h (.sliceSl n x y z w)) dst os k t ds := S_plain rfl
theorem S_sliceArr {n n' : Nat} {x : AArg} {y z w : Option AArg} {dst : Option Nat} : R C rs (.ops (⟨dst, none, .sliceArr n n' x y z w, u⟩ :: os) :: k) t ds h = stp C rs (aexec C t h (.sliceArr n n' x y z w)) dst os k t ds := S_plain rfl
theorem S_fieldAddr {n : Nat} {x : AArg} {dst : Option Nat} : R C rs (.ops (⟨dst, none, .fieldAddr n x, u⟩ :: os) :: k) t ds h = stp C rs (aexec C t h (.fieldAddr n x)) dst os k t ds := S_plain rfl
theorem S_field1 {n : Nat} {x : AArg} {dst : Option Nat} : R C rs (.ops (⟨dst, none, .field1 n x, u⟩ :: os) :: k) t ds h = stp C rs (aexec C t h (.field1 n x)) dst os k t ds := S_plain rfl
theorem S_fieldN {n n' : Nat} {x : AArg} {dst : Option Nat} : R C rs (.ops (⟨dst, none, .fieldN n n' x, u⟩ :: os) :: k) t ds h = stp C rs (aexec C t h (.fieldN n n' x)) dst os k t ds := S_plain rfl
theorem S_idxAddrArr {n n' : Nat} {x y : AArg} {dst : Option Nat} : R C rs (.ops (⟨dst, none, .idxAddrArr n n' x y, u⟩ :: os) :: k) t ds h = stp C rs (aexec C t h (.idxAddrArr n n' x y)) dst os k t ds := S_plain rfl
theorem S_idxAddrSl {n : Nat} {x y : AArg} {dst : Option Nat} : R C rs (.ops (⟨dst, none, .idxAddrSl n x y, u⟩ :: os) :: k) t ds h = stp C rs (aexec C t h (.idxAddrSl n x y)) dst os k t ds := S_plain rfl
theorem S_idxStr {x y : AArg} {dst : Option Nat} : R C rs (.ops (⟨dst, none, .idxStr x y, u⟩ :: os) :: k) t ds h = stp C rs (aexec C t h (.idxStr x y)) dst os k t ds := S_plain rfl
theorem S_idxArr1 {n : Nat} {x y : AArg} {dst : Option Nat} : R C rs (.ops (⟨dst, none, .idxArr1 n x y, u⟩ :: os) :: k) t ds h = stp C rs (aexec C t h (.idxArr1 n x y)) dst os k t ds := S_plain rfl
theorem S_idxArrN {n n' : Nat} {x y : AArg} {dst : Option Nat} : R C rs (.ops (⟨dst, none, .idxArrN n n' x y, u⟩ :: os) :: k) t ds h = stp C rs (aexec C t h (.idxArrN n n' x y)) dst os k t ds := S_plain rfl
theorem S_lookup {c : CK} {z : Value} {b : Bool} {x y : AArg} {dst : Option Nat} : R C rs (.ops (⟨dst, none, .lookup c z b x y, u⟩ :: os) :: k) t ds h = stp C rs (aexec C t h (.lookup c z b x y)) dst os k t ds := S_plain rfl
theorem S_rangeStr {x : AArg} {dst : Option Nat} : R C rs (.ops (⟨dst, none, .rangeStr x, u⟩ :: os) :: k) t ds h = stp C rs (aexec C t h (.rangeStr x)) dst os k t ds := S_plain rfl
theorem S_nextStr {x : AArg} {dst : Option Nat} : R C rs (.ops (⟨dst, none, .nextStr x, u⟩ :: os) :: k) t ds h = stp C rs (aexec C t h (.nextStr x)) dst os k t ds := S_plain rfl
theorem S_tassert {e : TypeId} {z : Value} {b : Bool} {x : AArg} {dst : Option Nat} : R C rs (.ops (⟨dst, none, .tassert e z b x, u⟩ :: os) :: k) t ds h = stp C rs (aexec C t h (.tassert e z b x)) dst os k t ds := S_plain rfl
theorem S_len {x : AArg} {dst : Option Nat} : R C rs (.ops (⟨dst, none, .len x, u⟩ :: os) :: k) t ds h = stp C rs (aexec C t h (.len x)) dst os k t ds := S_plain rfl
theorem S_lenS {x : AArg} {dst : Option Nat} : R C rs (.ops (⟨dst, none, .lenS x, u⟩ :: os) :: k) t ds h = stp C rs (aexec C t h (.lenS x)) dst os k t ds := S_plain rfl
theorem S_lenArr {n : Nat} {dst : Option Nat} : R C rs (.ops (⟨dst, none, .lenArr n, u⟩ :: os) :: k) t ds h = stp C rs (aexec C t h (.lenArr n)) dst os k t ds := S_plain rfl
theorem S_lenMap {x : AArg} {dst : Option Nat} : R C rs (.ops (⟨dst, none, .lenMap x, u⟩ :: os) :: k) t ds h = stp C rs (aexec C t h (.lenMap x)) dst os k t ds := S_plain rfl
theorem S_cap {x : AArg} {dst : Option Nat} : R C rs (.ops (⟨dst, none, .cap x, u⟩ :: os) :: k) t ds h = stp C rs (aexec C t h (.cap x)) dst os k t ds := S_plain rfl
theorem S_append {e : TypeId} {n n' : Nat} {x y : AArg} {dst : Option Nat} : R C rs (.ops (⟨dst, none, .append e n n' x y, u⟩ :: os) :: k) t ds h = stp C rs (aexec C t h (.append e n n' x y)) dst os k t ds := S_plain rfl
theorem S_copy {n : Nat} {x y : AArg} {dst : Option Nat} : R C rs (.ops (⟨dst, none, .copy n x y, u⟩ :: os) :: k) t ds h = stp C rs (aexec C t h (.copy n x y)) dst os k t ds := S_plain rfl
theorem S_min2 {x y : AArg} {dst : Option Nat} : R C rs (.ops (⟨dst, none, .min2 x y, u⟩ :: os) :: k) t ds h = stp C rs (aexec C t h (.min2 x y)) dst os k t ds := S_plain rfl
theorem S_min3 {x y z : AArg} {dst : Option Nat} : R C rs (.ops (⟨dst, none, .min3 x y z, u⟩ :: os) :: k) t ds h = stp C rs (aexec C t h (.min3 x y z)) dst os k t ds := S_plain rfl
theorem S_max2 {x y : AArg} {dst : Option Nat} : R C rs (.ops (⟨dst, none, .max2 x y, u⟩ :: os) :: k) t ds h = stp C rs (aexec C t h (.max2 x y)) dst os k t ds := S_plain rfl
theorem S_unsafeSliceData {x : AArg} {dst : Option Nat} : R C rs (.ops (⟨dst, none, .unsafeSliceData x, u⟩ :: os) :: k) t ds h = stp C rs (aexec C t h (.unsafeSliceData x)) dst os k t ds := S_plain rfl
theorem S_unsafeStr {e : TypeId} {x y : AArg} {dst : Option Nat} : R C rs (.ops (⟨dst, none, .unsafeStr e x y, u⟩ :: os) :: k) t ds h = stp C rs (aexec C t h (.unsafeStr e x y)) dst os k t ds := S_plain rfl
theorem S_toUnsafe {x : AArg} {dst : Option Nat} : R C rs (.ops (⟨dst, none, .toUnsafe x, u⟩ :: os) :: k) t ds h = stp C rs (aexec C t h (.toUnsafe x)) dst os k t ds := S_plain rfl
theorem S_fromUnsafe {e : TypeId} {x : AArg} {dst : Option Nat} : R C rs (.ops (⟨dst, none, .fromUnsafe e x, u⟩ :: os) :: k) t ds h = stp C rs (aexec C t h (.fromUnsafe e x)) dst os k t ds := S_plain rfl
theorem S_clearS {z : List Value} {x : AArg} {dst : Option Nat} : R C rs (.ops (⟨dst, none, .clearS z x, u⟩ :: os) :: k) t ds h = stp C rs (aexec C t h (.clearS z x)) dst os k t ds := S_plain rfl
theorem S_store1 {x y : AArg} {dst : Option Nat} : R C rs (.ops (⟨dst, none, .store1 x y, u⟩ :: os) :: k) t ds h = stp C rs (aexec C t h (.store1 x y)) dst os k t ds := S_plain rfl
theorem S_storeN {n : Nat} {x y : AArg} {dst : Option Nat} : R C rs (.ops (⟨dst, none, .storeN n x y, u⟩ :: os) :: k) t ds h = stp C rs (aexec C t h (.storeN n x y)) dst os k t ds := S_plain rfl
theorem S_mapUpd {c : CK} {x y z : AArg} {dst : Option Nat} : R C rs (.ops (⟨dst, none, .mapUpd c x y z, u⟩ :: os) :: k) t ds h = stp C rs (aexec C t h (.mapUpd c x y z)) dst os k t ds := S_plain rfl
theorem S_mapDel {c : CK} {x y : AArg} {dst : Option Nat} : R C rs (.ops (⟨dst, none, .mapDel c x y, u⟩ :: os) :: k) t ds h = stp C rs (aexec C t h (.mapDel c x y)) dst os k t ds := S_plain rfl
theorem S_mapClear {x : AArg} {dst : Option Nat} : R C rs (.ops (⟨dst, none, .mapClear x, u⟩ :: os) :: k) t ds h = stp C rs (aexec C t h (.mapClear x)) dst os k t ds := S_plain rfl
theorem S_move {x : AArg} {dst : Option Nat} : R C rs (.ops (⟨dst, none, .move x, u⟩ :: os) :: k) t ds h = stp C rs (aexec C t h (.move x)) dst os k t ds := S_plain rfl
theorem S_bin {op : BinOp} {x y : AArg} {dst : Option Nat} : R C rs (.ops (⟨dst, none, .bin op x y, u⟩ :: os) :: k) t ds h = stp C rs (aexec C t h (.bin op x y)) dst os k t ds := S_plain rfl
theorem S_un {op : UnOp} {x : AArg} {dst : Option Nat} : R C rs (.ops (⟨dst, none, .un op x, u⟩ :: os) :: k) t ds h = stp C rs (aexec C t h (.un op x)) dst os k t ds := S_plain rfl
theorem S_eq {n : Bool} {e : EqK} {x y : AArg} {dst : Option Nat} : R C rs (.ops (⟨dst, none, .eq n e x y, u⟩ :: os) :: k) t ds h = stp C rs (aexec C t h (.eq n e x y)) dst os k t ds := S_plain rfl
theorem S_convInt {n : IntKind} {x : AArg} {dst : Option Nat} : R C rs (.ops (⟨dst, none, .convInt n x, u⟩ :: os) :: k) t ds h = stp C rs (aexec C t h (.convInt n x)) dst os k t ds := S_plain rfl
theorem S_extract {i : Nat} {x : AArg} {dst : Option Nat} : R C rs (.ops (⟨dst, none, .extract i x, u⟩ :: os) :: k) t ds h = stp C rs (aexec C t h (.extract i x)) dst os k t ds := S_plain rfl

/-- drawn regions whose readers need no second look -/
theorem chk_none {C : Ctx} {go : K} {tr : List Tr} {h : AHeap} (hu : ∀ x ∈ tr, x.o.un = []) : drawCheck C go tr h = true := by
  unfold drawCheck
  simp only [List.all_eq_true]
  intro x hx j hj
  rw [hu x hx] at hj
  cases hj
def noDefer : AOp → Bool
  | .defer .. | .deferInvoke .. | .callv .. | .invoke .. => false
  | .call f _ => decide (f < 4294967296)
  | _ => true
def plainDraw : List AOper → Bool
  | [] => true
  | ⟨_, _, op, []⟩ :: l => noDefer op && plainDraw l
  | _ :: _ => false
theorem pd_nil : plainDraw [] = true := nr rfl
theorem pd_cons {d : Option Nat} {g : Option (Nat × Bool)} {op : AOp} {l : List AOper} : plainDraw (⟨d, g, op, []⟩ :: l) = (noDefer op && plainDraw l) := nr rfl
theorem pd_un {d : Option Nat} {g : Option (Nat × Bool)} {op : AOp} {a : Nat} {u : List Nat} {l : List AOper} : plainDraw (⟨d, g, op, a :: u⟩ :: l) = false := nr rfl
theorem noDefer_spec {op : AOp} (h : noDefer op = true) : opK op ≠ .defer := by
  cases op <;> simp_all [noDefer, opK]
theorem doCall_noRd {C : Ctx} {go : K} {f : FuncId} {args : List Value} {h : AHeap} (hf : f ≠ fYield) : doCall C (noRd go) f args h = doCall C go f args h := by
  unfold doCall
  cases hT : C.T f with
  | none => simp only [if_neg hf]
  | some x => cases x <;> simp only [noRd, inRoundA, Bool.false_eq_true, if_false]
theorem exec1_noRd {C : Ctx} {go : K} {t : List Value} {h : AHeap} {op : AOp} (hn : noDefer op = true) : exec1 C (noRd go) t h op = exec1 C go t h op := by
  unfold exec1
  cases op <;> first | rfl | (simp [noDefer] at hn; done) | skip
  rename_i f args
  simp only [noDefer, decide_eq_true_eq] at hn
  simp only [opK, target, okArgs]
  cases (args.map (·.ev t)).any isUnd with
  | true => rfl
  | false =>
    simp only [Bool.false_eq_true, if_false]
    exact doCall_noRd (fun e => by rw [e] at hn; exact absurd hn (by decide))
theorem plainDraw_spec : ∀ {l : List AOper}, plainDraw l = true → l.all (fun o => o.un.isEmpty && noDefer o.op) = true
  | [], _ => rfl
  | ⟨d, g, op, []⟩ :: l, h => by
    simp only [plainDraw, Bool.and_eq_true] at h
    simp only [List.all_cons, List.isEmpty_nil, Bool.true_and, Bool.and_eq_true]
    exact ⟨h.1, plainDraw_spec h.2⟩
  | ⟨d, g, op, _ :: _⟩ :: l, h => by simp [plainDraw] at h
theorem R_ops_seq : ∀ {l : List AOper} (hl : l.all (fun o => o.un.isEmpty && noDefer o.op) = true) {t : List Value} {h : AHeap},
    R C rs (.ops l :: k) t ds h = bnd (seqRun C (noRd (R C)) l t h) fun p => R C rs k p.2.1 ds p.2.2
  | [], _, t, h => by rw [R_nil]; rfl
  | o :: os, hl, t, h => by
    simp only [List.all_cons, Bool.and_eq_true] at hl
    have ih := fun t h => R_ops_seq (l := os) hl.2 (t := t) (h := h)
    simp only [seqRun, exec1_noRd hl.1.2]
    by_cases hw : wantedA t o.guard = true
    · simp only [hw, if_true]
      rw [R_step]
      simp only [stepM, hw, if_true]
      have hd := noDefer_spec hl.1.2
      cases ho : opK o.op with
      | defer => exact absurd ho hd
      | plain =>
        simp only
        cases resOk (pdst o) (exec1 C (R C) t h o.op) with
        | none => rfl
        | some p =>
          obtain ⟨v, h'⟩ := p
          simp only [ih]
          cases seqRun C (noRd (R C)) os (putD t o.dst v) h' with
          | none => rfl
          | some q => rfl
      | call =>
        simp only
        cases resOk (pdst o) (exec1 C (R C) t h o.op) with
        | none => rfl
        | some p =>
          obtain ⟨v, h'⟩ := p
          simp only [ih]
          cases seqRun C (noRd (R C)) os (putD t o.dst v) h' with
          | none => rfl
          | some q => rfl
    · have hw' : wantedA t o.guard = false := by simpa using hw
      simp only [hw', Bool.false_eq_true, if_false]
      rw [R_off hw', ih]
      cases seqRun C (noRd (R C)) os (putD t o.dst (.tuple #[])) h with
      | none => rfl
      | some q => rfl
theorem seqRun_un {go : K} : ∀ {l : List AOper} {t : List Value} {h : AHeap} {tr t' h'}, seqRun C go l t h = some (tr, t', h') → ∀ x ∈ tr, x.o ∈ l
  | [], t, h, tr, t', h', e, x, hx => by simp only [seqRun, Option.some.injEq, Prod.mk.injEq] at e; rw [← e.1] at hx; cases hx
  | o :: os, t, h, tr, t', h', e, x, hx => by
    simp only [seqRun] at e
    split at e
    · rename_i v h1 he
      cases hs : seqRun C go os (putD t o.dst v) h1 with
      | none => rw [hs] at e; cases e
      | some q =>
        obtain ⟨tr1, t1, h2⟩ := q
        rw [hs] at e
        simp only [Option.map_some, Option.some.injEq, Prod.mk.injEq] at e
        obtain ⟨rfl, _, _⟩ := e
        rcases List.mem_cons.1 hx with rfl | hx'
        · simp
        · exact List.mem_cons_of_mem _ (seqRun_un hs x hx')
    · cases e
theorem S_draw {l : List AOper} (hl : plainDraw l = true) : R C rs (.code (.draw l) :: k) t ds h = R C rs (.ops l :: k) t ds h := by
  have hl := plainDraw_spec hl
  rw [R_draw, R_ops_seq hl]
  unfold drawRun
  cases hs : seqRun C (noRd (R C)) l t h with
  | none => rfl
  | some q =>
    obtain ⟨tr, t', h'⟩ := q
    have : drawCheck C (noRd (R C)) tr h' = true := chk_none fun x hx => by
      have := seqRun_un hs x hx
      rw [List.all_eq_true] at hl
      have := hl _ this
      simp only [Bool.and_eq_true, List.isEmpty_iff] at this
      exact this.1
    simp only [this, if_true, bnd_some]

theorem res0 {old : Old} {t : List Value} {h : AHeap} : resultsA old [] t h = some (.tuple #[]) := rfl
theorem res1 {old : Old} {t : List Value} {h : AHeap} {r : ARes} : resultsA old [r] t h = resV old t h r := by
  simp only [resultsA, List.mapM_cons, List.mapM_nil]
  cases resV old t h r <;> rfl
theorem res2 {old : Old} {t : List Value} {h : AHeap} {r r' : ARes} : resultsA old [r, r'] t h = bnd (resV old t h r) fun a => bnd (resV old t h r') fun b => some (.tuple ⟨[a, b]⟩) := by
  simp only [resultsA, List.mapM_cons, List.mapM_nil]
  cases resV old t h r <;> cases resV old t h r' <;> rfl
theorem res3 {old : Old} {t : List Value} {h : AHeap} {r r' r'' : ARes} : resultsA old [r, r', r''] t h = bnd (resV old t h r) fun a => bnd (resV old t h r') fun b => bnd (resV old t h r'') fun c => some (.tuple ⟨[a, b, c]⟩) := by
  simp only [resultsA, List.mapM_cons, List.mapM_nil]
  cases resV old t h r <;> cases resV old t h r' <;> cases resV old t h r'' <;> rfl
theorem resTmp {old : Old} {t : List Value} {h : AHeap} {i : Nat} : resV old t h (.tmp i) = some (tg t i) := rfl
noncomputable def finD (C : Ctx) (rs : List ARes) (t : List Value) (ds : List ADefer) (h : AHeap) : Res := fin C (R C) rs t ds h
theorem S_ret : R C rs (.code .ret :: k) t ds h = finD C rs t ds h := by rw [R_step]; rfl
theorem S_end : R C rs [] t ds h = finD C rs t ds h := by rw [R_step]; rfl
theorem fin_nil : finD C rs t [] h = bnd (resultsA C.old rs t h) fun v => some (v, h) := by
  unfold finD fin
  cases resultsA C.old rs t h <;> rfl
theorem fin_cons {d : ADefer} : finD C rs t (d :: ds) h = bnd (D C d.f d.args h) fun p => finD C rs t ds p.2 := by
  unfold finD D
  rw [fin]
  cases doCall C (R C) d.f d.args h <;> rfl
theorem fin_congr {C : Ctx} {rs : List ARes} {t t' : List Value} {ds : List ADefer} {h h' : AHeap} (e : t = t') (e' : h = h') : finD C rs t ds h = finD C rs t' ds h' := by rw [e, e']
attribute [congr] fin_congr

/-- a call of a function that leaves memory as it was -/
def pur (r : Res) (h : AHeap) : Res := match r with
  | some (v, _) => if flat v then some (v, h) else none
  | none => none
def ext1 (r : Res) (lo : Nat) : Res := match r with
  | some (v, h') => some (v, { h' with lo := lo })
  | none => none
theorem D_fn1 {f : FuncId} {body : ACode} {res : List ARes} (hT : C.T f = some (.fn { body, res, mode := 1 })) (args : List Value) :
    D C f args h = ext1 (R C res [.code body] args [] { h with lo := h.bs.length }) h.lo := by
  unfold D doCall
  rw [hT]
  simp only [ext1]
  split <;> simp_all
theorem D_fn2 {f : FuncId} {body : ACode} {res : List ARes} (hT : C.T f = some (.fn { body, res, mode := 2 })) (args : List Value) :
    D C f args h = pur (R C res [.code body] args [] { h with lo := h.bs.length }) h := by
  unfold D doCall
  rw [hT]
  simp only [pur]
  split <;> simp_all
theorem D_fn3 {f : FuncId} {body : ACode} {res : List ARes} (hT : C.T f = some (.fn { body, res, mode := 3 })) (args : List Value) (ha : args.all flat = true) :
    D C f args h = pur (R C res [.code body] args [] { bs := [], lo := 0 }) h := by
  unfold D doCall
  rw [hT]
  simp only [pur, ha, if_true]
  split <;> simp_all
theorem pur_some {v : Value} {h h' : AHeap} (hf : flat v = true) : pur (some (v, h')) h = some (v, h) := by simp [pur, hf]
end

@[simp] theorem ev_tmp {t : List Value} {i : Nat} : (AArg.tmp i).ev t = tg t i := nr rfl
@[simp] theorem ev_cst {t : List Value} {v : Value} : (AArg.cst v).ev t = v := nr rfl
theorem tg_self {t : List Value} {i : Nat} {v : Value} : tg (ts t i v) i = v := by simp [tg_ts]
theorem tg_ne {t : List Value} {i j : Nat} {v : Value} (h : (j == i) = false) : tg (ts t i v) j = tg t j := by
  rw [tg_ts, if_neg (by simpa using h)]
theorem tg_0 {a : Value} {l : List Value} : tg (a :: l) 0 = a := nr rfl
theorem tg_1 {a b : Value} {l : List Value} : tg (a :: b :: l) 1 = b := nr rfl
theorem tg_2 {a b c : Value} {l : List Value} : tg (a :: b :: c :: l) 2 = c := nr rfl
theorem tg_3 {a b c d : Value} {l : List Value} : tg (a :: b :: c :: d :: l) 3 = d := nr rfl
theorem tg_4 {a b c d e : Value} {l : List Value} : tg (a :: b :: c :: d :: e :: l) 4 = e := nr rfl
theorem tg_5 {a b c d e f : Value} {l : List Value} : tg (a :: b :: c :: d :: e :: f :: l) 5 = f := nr rfl
theorem putD_some {t : List Value} {i : Nat} {v : Value} : putD t (some i) v = ts t i v := nr rfl
theorem putD_none {t : List Value} {v : Value} : putD t none v = t := nr rfl
@[simp] theorem adda_mk {b o : Nat} {s : Option Nat} {n : Nat} : adda ⟨b, o, s⟩ n = ⟨b, o + n, s⟩ := nr rfl
attribute [simp] S_defer S_draw pd_nil pd_cons pd_un noDefer S_pick S_box S_build S_buildSlice S_load1 S_loadN S_nilCheck S_convStr S_str2bytes S_bytes2str S_rune2str S_mkIface S_mkFunc S_mkMap S_mkSlice S_sliceStr S_sliceSl S_sliceArr S_fieldAddr S_field1 S_fieldN S_idxAddrArr S_idxAddrSl S_idxStr S_idxArr1 S_idxArrN S_lookup S_rangeStr S_nextStr S_tassert S_len S_lenS S_lenArr S_lenMap S_cap S_append S_copy S_min2 S_max2 S_min3 S_unsafeSliceData S_unsafeStr S_toUnsafe S_fromUnsafe S_clearS S_store1 S_storeN S_mapUpd S_mapDel S_mapClear S_move S_bin S_un S_eq S_convInt S_extract S_guard S_call S_callv S_cond S_loop S_exit R_label R_scope R_inScope S_goto R_seq R_skip R_block R_inBlock R_ops R_nil S_ret S_end fin_nil fin_cons res0 res1 res2 res3 resTmp putD_some putD_none tg_ts tg_0 tg_1 tg_2 tg_3 tg_4 tg_5 aexitTo Dc0 ptrOf optI
end Go.Ab

/- Reading and writing known blocks; lists that a slice reads as. -/
namespace Go.Ab

section
variable {h : AHeap} {i j : Nat} {b b' : ABlock}
@[simp] theorem put_len : (h.put i b).bs.length = h.bs.length := by simp [AHeap.put]
@[simp] theorem push_len : (h.push b).bs.length = h.bs.length + 1 := by simp [AHeap.push]
@[simp] theorem put_lo : (h.put i b).lo = h.lo := nr rfl
@[simp] theorem push_lo : (h.push b).lo = h.lo := nr rfl
/-- the block of that number -/
def AHeap.at (h : AHeap) (i : Nat) : Option ABlock := h.bs[i]?
theorem at_eq : h.at i = h.bs[i]? := rfl
theorem get_lt (e : h.at i = some b) : i < h.bs.length := (List.getElem?_eq_some_iff.1 e).1
theorem put_self (e : i < h.bs.length) : (h.put i b).at i = some b := by simp [AHeap.put, AHeap.at, e]
theorem put_ne (e : i ≠ j) : (h.put i b).at j = h.at j := by simp [AHeap.put, AHeap.at, e]
@[simp] theorem push_self : (h.push b).at h.bs.length = some b := by simp [AHeap.push, AHeap.at]
theorem push_self' (e : i = h.bs.length) : (h.push b).at i = some b := by rw [e]; exact push_self
theorem push_lt (e : i < h.bs.length) : (h.push b).at i = h.at i := by simp only [AHeap.push, AHeap.at]; rw [List.getElem?_append_left e]
theorem push_old {x : ABlock} (e : h.at i = some x) : (h.push b).at i = some x := by rw [push_lt (get_lt e), e]
theorem put_put : (h.put i b).put i b' = h.put i b' := by simp [AHeap.put]
end

section
variable {old : Old} {h : AHeap} {b o n fz : Nat} {c : List Value}
theorem read1_cells (hb : h.at b = some (.cells c fz)) : read1 old h ⟨b, o, some 0⟩ = c[o]? := by
  simp [read1, ← at_eq, hb]
theorem read1_old : read1 old h ⟨b, o, none⟩ = old b o := rfl
theorem readN_cells (hb : h.at b = some (.cells c fz)) (hn : o + n ≤ c.length) : readN old h ⟨b, o, some 0⟩ n = some ((c.drop o).take n) := by
  simp [readN, ← at_eq, hb, hn]
theorem read1_grow {last k t : Nat} (hb : h.at b = some (.grow c last fz k)) (h1 : last < t) (h2 : t ≤ c.length + 1) (h3 : o + 2 ≤ t) : read1 old h ⟨b, o, some t⟩ = c[o]? := by
  simp [read1, ← at_eq, hb, h1, h2, h3]
theorem readN_grow {last k t : Nat} (hb : h.at b = some (.grow c last fz k)) (h1 : last < t) (h2 : t ≤ c.length + 1) (h3 : o + n + 1 ≤ t) : readN old h ⟨b, o, some t⟩ n = some ((c.drop o).take n) := by
  simp [readN, ← at_eq, hb, h1, h2, h3]
theorem write1_cells {v : Value} (hb : h.at b = some (.cells c fz)) (hl : h.lo ≤ b) (ho : o < c.length) (hf : fz ≠ 0) (hv : okCell v = true) :
    write1 h ⟨b, o, some 0⟩ v = some (h.put b (.cells (c.set o v) fz)) := by
  simp [write1, ← at_eq, hb, ho, hf, hv, Nat.not_lt.2 hl]
theorem writeN_cells {vs : List Value} (hb : h.at b = some (.cells c fz)) (hl : h.lo ≤ b) (ho : o + vs.length ≤ c.length) (hf : fz ≠ 0) (hv : vs.all okCell = true) :
    writeN h ⟨b, o, some 0⟩ vs = some (h.put b (.cells (splice c o vs) fz)) := by
  simp only [writeN, ← at_eq, hb, ho, hf, hv, Nat.not_lt.2 hl, if_false, ne_eq, not_false_eq_true, and_self, if_true]
end

theorem mapM_get {α β : Type} {f : α → Option β} : ∀ {l : List α} {c : List β}, l.mapM f = some c → c.length = l.length ∧ ∀ (i : Nat) (a : α), l[i]? = some a → f a = c[i]?
  | [], c, e => by
    simp only [List.mapM_nil, Option.pure_def, Option.some.injEq] at e
    subst e
    exact ⟨rfl, fun i a h => by cases h⟩
  | x :: l, c, e => by
    simp only [List.mapM_cons, Option.pure_def, Option.bind_eq_bind, Option.bind_eq_some_iff, Option.some.injEq] at e
    obtain ⟨y, hy, r, hr, rfl⟩ := e
    obtain ⟨h1, h2⟩ := mapM_get hr
    refine ⟨by simp [h1], fun i a h => ?_⟩
    cases i with
    | zero => cases h; exact hy
    | succ i => exact h2 i a h
theorem mapM_of {α β : Type} {f : α → Option β} : ∀ {l : List α} {c : List β}, c.length = l.length → (∀ (i : Nat) (a : α), l[i]? = some a → f a = c[i]?) → l.mapM f = some c
  | [], [], _, _ => by simp
  | [], _ :: _, h, _ => by cases h
  | _ :: _, [], h, _ => by cases h
  | x :: l, y :: c, h, g => by
    have h1 := g 0 x rfl
    have h2 := mapM_of (f := f) (l := l) (c := c) (by simpa using h) fun i a e => g (i + 1) a e
    simp only [List.mapM_cons, h1, h2]
    rfl

/-- n cells at a place are one cell each -/
theorem readN_spec {old : Old} {h : AHeap} {a : Addr} {n : Nat} {c : List Value} (e : readN old h a n = some c) : c.length = n ∧ ∀ i, i < n → read1 old h (adda a i) = c[i]? := by
  obtain ⟨b, o, s⟩ := a
  suffices hs : c.length = n ∧ ∀ i, i < n → read1 old h ⟨b, o + i, s⟩ = c[i]? from hs
  unfold readN at e
  unfold read1
  cases s with
  | none =>
    obtain ⟨h1, h2⟩ := mapM_get e
    simp only [List.length_range] at h1
    exact ⟨h1, fun i hi => h2 i i (List.getElem?_range hi)⟩
  | some t =>
    simp only at e ⊢
    cases hb : h.bs[b]? with
    | none => rw [hb] at e; cases e
    | some blk =>
      rw [hb] at e
      cases blk with
      | cells c' fz =>
        simp only at e ⊢
        split at e
        · rename_i hc
          cases e
          refine ⟨by simp; omega, fun i hi => ?_⟩
          rw [if_pos hc.1]
          simp [List.getElem?_take, hi]
        · cases e
      | grow c' last fz k =>
        simp only at e ⊢
        split at e
        · rename_i hc
          cases e
          refine ⟨by simp; omega, fun i hi => ?_⟩
          rw [if_pos ⟨hc.1, hc.2.1, by omega⟩]
          simp [List.getElem?_take, hi]
        · cases e
      | _ => cases e
theorem readN_length {old : Old} {h : AHeap} {a : Addr} {n : Nat} {c : List Value} (e : readN old h a n = some c) : c.length = n := (readN_spec e).1
theorem readN_read1 {old : Old} {h : AHeap} {a : Addr} {n i : Nat} {c : List Value} (e : readN old h a n = some c) (hi : i < n) : read1 old h (adda a i) = c[i]? := (readN_spec e).2 i hi
theorem adda_adda {a : Addr} {m n : Nat} : adda (adda a m) n = adda a (m + n) := by simp [adda, Nat.add_assoc]
theorem adda_zero {a : Addr} : adda a 0 = a := rfl
@[simp] theorem adda_block {a : Addr} {n : Nat} : (adda a n).block = a.block := nr rfl
@[simp] theorem adda_spot {a : Addr} {n : Nat} : (adda a n).spot = a.spot := nr rfl
@[simp] theorem adda_off {a : Addr} {n : Nat} : (adda a n).off = a.off + n := nr rfl
/-- a part of what was read -/
theorem readN_part {old : Old} {h : AHeap} {a : Addr} {n i m : Nat} {c : List Value} (e : readN old h a n = some c) (hi : i + m ≤ n) : readN old h (adda a i) m = some ((c.drop i).take m) := by
  have hl := readN_length e
  have hg := (readN_spec e).2
  obtain ⟨b, o, s⟩ := a
  show readN old h ⟨b, o + i, s⟩ m = _
  unfold readN at e ⊢
  cases s with
  | none =>
    simp only
    obtain ⟨h1, h2⟩ := mapM_get e
    refine mapM_of (by simp; omega) fun j x hj => ?_
    have hjm : j < m := by
      have := (List.getElem?_eq_some_iff.1 hj).1
      simpa using this
    have hx : x = j := by
      have := List.getElem?_eq_some_iff.1 hj
      obtain ⟨_, h3⟩ := this
      simpa using h3.symm
    subst hx
    have := h2 (i + x) (i + x) (List.getElem?_range (by omega))
    simp only [List.getElem?_take, hjm, if_true, List.getElem?_drop]
    rw [← this, Nat.add_assoc]
  | some t =>
    simp only at e ⊢
    cases hb : h.bs[b]? with
    | none => rw [hb] at e; cases e
    | some blk =>
      rw [hb] at e
      cases blk with
      | cells c' fz =>
        simp only at e ⊢
        split at e
        · rename_i hc
          cases e
          rw [if_pos ⟨hc.1, by omega⟩]
          simp only [Option.some.injEq]
          rw [List.drop_take, List.take_take, List.drop_drop, Nat.min_eq_left (by omega)]
        · cases e
      | grow c' last fz k =>
        simp only at e ⊢
        split at e
        · rename_i hc
          cases e
          rw [if_pos ⟨hc.1, hc.2.1, by omega⟩]
          simp only [Option.some.injEq]
          rw [List.drop_take, List.take_take, List.drop_drop, Nat.min_eq_left (by omega)]
        · cases e
      | _ => cases e
/-- reading asks of one block alone -/
theorem readN_same {old : Old} {h h' : AHeap} {a : Addr} {n : Nat} (e : a.spot = none ∨ h'.at a.block = h.at a.block) : readN old h' a n = readN old h a n := by
  obtain ⟨b, o, s⟩ := a
  cases s with
  | none => rfl
  | some t =>
    have e : h'.bs[b]? = h.bs[b]? := by simpa [AHeap.at] using e
    simp only [readN, e]
theorem read1_same {old : Old} {h h' : AHeap} {a : Addr} (e : a.spot = none ∨ h'.at a.block = h.at a.block) : read1 old h' a = read1 old h a := by
  obtain ⟨b, o, s⟩ := a
  cases s with
  | none => rfl
  | some t =>
    have e : h'.bs[b]? = h.bs[b]? := by simpa [AHeap.at] using e
    simp only [read1, e]


/- what an operation does, in forms that simp decides by facts -/
def vh (h : AHeap) (o : Option Value) : Res := match o with
  | some v => some (v, h)
  | none => none
@[simp] theorem vh_some {h : AHeap} {v : Value} : vh h (some v) = some (v, h) := nr rfl
@[simp] theorem vh_none {h : AHeap} : vh h none = none := nr rfl
theorem map_vh {h : AHeap} {o : Option Value} : (o.map fun v => (v, h)) = vh h o := by cases o <;> rfl
def hv (o : Option AHeap) : Res := match o with
  | some h => some (.tuple #[], h)
  | none => none
@[simp] theorem hv_some {h : AHeap} : hv (some h) = some (.tuple #[], h) := nr rfl
@[simp] theorem hv_none : hv none = none := nr rfl
theorem map_hv {o : Option AHeap} : (o.map fun h => (Value.tuple #[], h)) = hv o := by cases o <;> rfl
def rd1 (o : Option ABlock) (off t : Nat) : Option Value := match o with
  | some (.cells c _) => if t = 0 then c[off]? else none
  | some (.grow c last _ _) => if last < t ∧ t ≤ c.length + 1 ∧ off + 2 ≤ t then c[off]? else none
  | _ => none
def rdN (o : Option ABlock) (off t n : Nat) : Option (List Value) := match o with
  | some (.cells c _) => if t = 0 ∧ off + n ≤ c.length then some ((c.drop off).take n) else none
  | some (.grow c last _ _) => if last < t ∧ t ≤ c.length + 1 ∧ off + n + 1 ≤ t then some ((c.drop off).take n) else none
  | _ => none
theorem read1_rd {old : Old} {h : AHeap} {b o t : Nat} : read1 old h ⟨b, o, some t⟩ = rd1 (h.at b) o t := rfl
theorem readN_rd {old : Old} {h : AHeap} {b o t n : Nat} : readN old h ⟨b, o, some t⟩ n = rdN (h.at b) o t n := rfl
@[simp] theorem rd1_cells {c : List Value} {fz o : Nat} : rd1 (some (.cells c fz)) o 0 = c[o]? := nr rfl
theorem rdN_cells {c : List Value} {fz o n : Nat} (hn : o + n ≤ c.length) : rdN (some (.cells c fz)) o 0 n = some ((c.drop o).take n) := by simp [rdN, hn]
theorem rd1_grow {c : List Value} {fz k last o t : Nat} (h1 : last < t) (h2 : t ≤ c.length + 1) (h3 : o + 2 ≤ t) : rd1 (some (.grow c last fz k)) o t = c[o]? := by simp [rd1, h1, h2, h3]
theorem rdN_grow {c : List Value} {fz k last o t n : Nat} (h1 : last < t) (h2 : t ≤ c.length + 1) (h3 : o + n + 1 ≤ t) : rdN (some (.grow c last fz k)) o t n = some ((c.drop o).take n) := by simp [rdN, h1, h2, h3]
def wr1 (h : AHeap) (b : Nat) (x : Option ABlock) (off t : Nat) (v : Value) : Option AHeap := match x with
  | some (.cells c fz) => if t = 0 ∧ off < c.length ∧ fz ≠ 0 ∧ okCell v = true then some (h.put b (.cells (c.set off v) fz)) else none
  | some (.grow c _ fz k) => if t = c.length + 1 ∧ off < c.length ∧ fz ≠ 0 ∧ okCell v = true then some (h.put b (.grow (c.set off v) c.length fz k)) else none
  | _ => none
def wrN (h : AHeap) (b : Nat) (x : Option ABlock) (off t : Nat) (vs : List Value) : Option AHeap := match x with
  | some (.cells c fz) => if t = 0 ∧ off + vs.length ≤ c.length ∧ fz ≠ 0 ∧ vs.all okCell = true then some (h.put b (.cells (splice c off vs) fz)) else none
  | some (.grow c _ fz k) => if t = c.length + 1 ∧ off + vs.length ≤ c.length ∧ fz ≠ 0 ∧ vs.all okCell = true then some (h.put b (.grow (splice c off vs) c.length fz k)) else none
  | _ => none
theorem write1_wr {h : AHeap} {b o t : Nat} {v : Value} (hl : h.lo ≤ b) : write1 h ⟨b, o, some t⟩ v = wr1 h b (h.at b) o t v := by
  simp only [write1, Nat.not_lt.2 hl, if_false]; rfl
theorem writeN_wr {h : AHeap} {b o t : Nat} {v : List Value} (hl : h.lo ≤ b) : writeN h ⟨b, o, some t⟩ v = wrN h b (h.at b) o t v := by
  simp only [writeN, Nat.not_lt.2 hl, if_false]; rfl
theorem wr1_cells {h : AHeap} {c : List Value} {fz b o : Nat} {v : Value} (ho : o < c.length) (hv : okCell v = true) : wr1 h b (some (.cells c (fz + 1))) o 0 v = some (h.put b (.cells (c.set o v) (fz + 1))) := by simp [wr1, ho, hv]
theorem wrN_cells {h : AHeap} {c : List Value} {fz b o : Nat} {v : List Value} (ho : o + v.length ≤ c.length) (hv : v.all okCell = true) : wrN h b (some (.cells c (fz + 1))) o 0 v = some (h.put b (.cells (splice c o v) (fz + 1))) := by simp only [wrN, ho, hv]; simp
theorem wr1_cells' {h : AHeap} {c : List Value} {fz b o : Nat} {v : Value} (ho : o < c.length) (hf : 0 < fz) (hv : okCell v = true) : wr1 h b (some (.cells c fz)) o 0 v = some (h.put b (.cells (c.set o v) fz)) := by
  obtain ⟨f, rfl⟩ : ∃ f, fz = f + 1 := ⟨fz - 1, by omega⟩
  exact wr1_cells ho hv
theorem get_put {h : AHeap} {i j : Nat} {b : ABlock} : (h.put i b).at j = if i = j then (if i < h.bs.length then some b else none) else h.at j := by
  simp only [AHeap.put, AHeap.at, List.getElem?_set]
theorem get_push {h : AHeap} {j : Nat} {b : ABlock} : (h.push b).at j = if j < h.bs.length then h.at j else if j = h.bs.length then some b else none := by
  simp only [AHeap.push, AHeap.at, List.getElem?_append]
  split
  · rfl
  · split
    · rename_i h1; subst h1; simp
    · rename_i h1 h2
      rw [List.getElem?_eq_none]
      simp; omega

def ptrA (f : Addr → Res) (v : Value) : Res := match v with
  | .pointer (some a) => f a
  | _ => none
@[simp] theorem ptrA_some {f : Addr → Res} {a : Addr} : ptrA f (.pointer (some a)) = f a := nr rfl
@[congr] theorem ptrA_congr {f : Addr → Res} {v v' : Value} (e : v = v') : ptrA f v = ptrA f v' := by rw [e]
theorem ptrOf_A {f : Addr → Res} {v : Value} : (match ptrOf v with | some a => f a | none => none) = ptrA f v := by
  cases v <;> try rfl
  rename_i a; cases a <;> rfl
/-- the address of an element -/
def ixS (k : Nat) (v i : Value) : Option Value := match v, i with
  | .slice (some a) len _, .int _ i => if 0 ≤ i ∧ i < len then some (.pointer (some (adda a (i.toNat * k)))) else none
  | _, _ => none
theorem ixS_ok {k len c : Nat} {a : Addr} {q : IntKind} {i : Int} (h0 : 0 ≤ i) (h1 : i < len) : ixS k (.slice (some a) len c) (.int q i) = some (.pointer (some (adda a (i.toNat * k)))) := by simp [ixS, h0, h1]
def ixA (k len : Nat) (v i : Value) : Option Value := match v, i with
  | .pointer (some a), .int _ i => if 0 ≤ i ∧ i < len then some (.pointer (some (adda a (i.toNat * k)))) else none
  | _, _ => none
theorem ixA_ok {k len : Nat} {a : Addr} {q : IntKind} {i : Int} (h0 : 0 ≤ i) (h1 : i < len) : ixA k len (.pointer (some a)) (.int q i) = some (.pointer (some (adda a (i.toNat * k)))) := by simp [ixA, h0, h1]
def ixT (v i : Value) : Option Value := match v, i with
  | .string s, .int _ i => if 0 ≤ i then (match s.data.toList[i.toNat]? with
      | some b => some (.int .u8 b.toNat)
      | none => none) else none
  | _, _ => none
section
variable {C : Ctx} {t : List Value} {h : AHeap}
theorem ax_pick {c a b : AArg} : aexec C t h (.pick c a b) = match c.ev t with
    | .bool true => some (a.ev t, h)
    | .bool false => some (b.ev t, h)
    | _ => none := rfl
theorem ax_load1 {x : AArg} : aexec C t h (.load1 x) = ptrA (fun a => vh h (read1 C.old h a)) (x.ev t) := by
  rw [← ptrOf_A]; simp only [aexec, map_vh]; cases ptrOf (x.ev t) <;> rfl
theorem ax_loadN {n : Nat} {x : AArg} : aexec C t h (.loadN n x) = ptrA (fun a => vh h ((readN C.old h a n).map fun c => .agg ⟨c⟩)) (x.ev t) := by
  rw [← ptrOf_A]; simp only [aexec]
  cases ptrOf (x.ev t) with
  | none => rfl
  | some a => simp only; cases readN C.old h a n <;> rfl
theorem ax_store1 {x v : AArg} : aexec C t h (.store1 x v) = ptrA (fun a => hv (write1 h a (v.ev t))) (x.ev t) := by
  rw [← ptrOf_A]; simp only [aexec, map_hv]; cases ptrOf (x.ev t) <;> rfl
theorem ax_storeN {n : Nat} {x v : AArg} : aexec C t h (.storeN n x v) = ptrA (fun a => if (cellsOf (v.ev t)).length = n then hv (writeN h a (cellsOf (v.ev t))) else none) (x.ev t) := by
  rw [← ptrOf_A]; simp only [aexec, map_hv]; cases ptrOf (x.ev t) <;> rfl
theorem ax_fieldAddr {n : Nat} {x : AArg} : aexec C t h (.fieldAddr n x) = ptrA (fun a => some (.pointer (some (adda a n)), h)) (x.ev t) := by
  rw [← ptrOf_A]; rfl
theorem ax_idxAddrSl {k : Nat} {x i : AArg} : aexec C t h (.idxAddrSl k x i) = vh h (ixS k (x.ev t) (i.ev t)) := by
  simp only [aexec]
  generalize x.ev t = v
  generalize i.ev t = w
  unfold ixS
  split
  · rename_i a len cp n hn
    cases w <;> simp only [asI, reduceCtorEq, Option.some.injEq] at hn
    subst hn
    simp only
    split <;> rfl
  · rename_i h1
    split
    · rename_i a len cp q n
      exact absurd rfl (h1 a len cp n rfl)
    · rfl
theorem ax_idxAddrArr {k n : Nat} {x i : AArg} : aexec C t h (.idxAddrArr k n x i) = vh h (ixA k n (x.ev t) (i.ev t)) := by
  simp only [aexec]
  generalize x.ev t = v
  generalize i.ev t = w
  unfold ixA
  split
  · rename_i a m ha hn
    cases w <;> simp only [asI, reduceCtorEq, Option.some.injEq] at hn
    subst hn
    unfold ptrOf at ha
    split at ha
    · cases ha
      simp only
      split <;> rfl
    · cases ha
  · rename_i h1
    split
    · rename_i a q n
      exact absurd rfl (h1 a n rfl)
    · rfl
theorem ax_idxStr {x i : AArg} : aexec C t h (.idxStr x i) = vh h (ixT (x.ev t) (i.ev t)) := by
  simp only [aexec]
  generalize x.ev t = v
  generalize i.ev t = w
  unfold ixT
  split
  · rename_i s n hn
    cases w <;> simp only [asI, reduceCtorEq, Option.some.injEq] at hn
    subst hn
    simp only
    split
    · generalize s.data.toList[(_ : Int).toNat]? = q
      cases q <;> rfl
    · rfl
  · rename_i h1
    split
    · rename_i s q n
      exact absurd rfl (h1 s n rfl)
    · rfl
theorem ax_field1 {n : Nat} {x : AArg} : aexec C t h (.field1 n x) = vh h (part1 (x.ev t) n) := by simp only [aexec, map_vh]
theorem ax_fieldN {n m : Nat} {x : AArg} : aexec C t h (.fieldN n m x) = vh h (partN (x.ev t) n m) := by simp only [aexec, map_vh]
end
section
variable {C : Ctx} {t : List Value} {h : AHeap}
theorem ax_move {x : AArg} : aexec C t h (.move x) = some (x.ev t, h) := rfl
theorem ax_bin {op : BinOp} {x y : AArg} : aexec C t h (.bin op x y) = vh h (abin op (x.ev t) (y.ev t)) := by simp only [aexec, map_vh]
theorem ax_un {op : UnOp} {x : AArg} : aexec C t h (.un op x) = vh h (aun op (x.ev t)) := by simp only [aexec, map_vh]
theorem ax_eq {n : Bool} {e : EqK} {x y : AArg} : aexec C t h (.eq n e x y) = vh h ((aeq e (x.ev t) (y.ev t)).map fun b => .bool (if n then !b else b)) := by
  simp only [aexec]; cases aeq e (x.ev t) (y.ev t) <;> rfl
def cvt (n : IntKind) (v : Value) : Option Value := (asI v).map fun a => .int n (n.wrap a)
theorem ax_convInt {n : IntKind} {x : AArg} : aexec C t h (.convInt n x) = vh h (cvt n (x.ev t)) := by
  unfold cvt
  simp only [aexec]; cases asI (x.ev t) <;> rfl
def xtr (i : Nat) : Value → Option Value
  | .tuple vs => vs.toList[i]?
  | _ => none
@[simp] theorem xtr_tuple {i : Nat} {l : List Value} : xtr i (.tuple ⟨l⟩) = l[i]? := nr rfl
theorem ax_extract {i : Nat} {x : AArg} : aexec C t h (.extract i x) = vh h (xtr i (x.ev t)) := by
  simp only [aexec, map_vh]; cases x.ev t <;> rfl
end
def lenV : Value → Option Value
  | .slice _ n _ => some (.int .i64 n)
  | _ => none
@[simp] theorem lenV_slice {a : Option Addr} {n c : Nat} : lenV (.slice a n c) = some (.int .i64 n) := nr rfl
section
variable {C : Ctx} {t : List Value} {h : AHeap}
theorem ax_len {x : AArg} : aexec C t h (.len x) = vh h (lenV (x.ev t)) := by
  simp only [aexec]; cases x.ev t <;> rfl
theorem ax_box {e : TypeId} {x : AArg} : aexec C t h (.box e x) = (if (cellsOf (x.ev t)).all okCell = true then
      some (.pointer (some ⟨h.bs.length, 0, some 0⟩), h.push (.cells (cellsOf (x.ev t)) (e + 1))) else none) := rfl
theorem ax_build {zero : List Value} {parts : List (Nat × Nat × AArg)} : aexec C t h (.build zero parts) = ((fillCells zero (parts.map fun (o, n, x) => (o, n, x.ev t))).map fun c => (.agg ⟨c⟩, h)) := rfl
theorem ax_buildSlice {e : TypeId} {zero : List Value} {len : Nat} {parts : List (Nat × Nat × AArg)} : aexec C t h (.buildSlice e zero len parts) = (match fillCells zero (parts.map fun (o, n, x) => (o, n, x.ev t)) with
    | some c => if c.all okCell = true then
        (if len = 0 then some (emptySl, h) else some (.slice (some ⟨h.bs.length, 0, some 0⟩) len len, h.push (.cells c (e + 1)))) else none
    | none => none) := rfl
theorem ax_nilCheck {x : AArg} : aexec C t h (.nilCheck x) = (if nilOk (x.ev t) then some (x.ev t, h) else none) := rfl
theorem ax_convStr {x : AArg} : aexec C t h (.convStr x) = (match x.ev t with
    | .string s => some (.string s, h)
    | _ => none) := rfl
theorem ax_str2bytes {e : TypeId} {x : AArg} : aexec C t h (.str2bytes e x) = (match x.ev t with
    | .string s => if s.size ≤ sizeLim then some (.slice (some ⟨h.bs.length, 0, some (s.size + 1)⟩) s.size 0, h.push (.grow (bytesVals s.data.toList) 0 (e + 1) 1)) else none
    | _ => none) := rfl
theorem ax_bytes2str {x : AArg} : aexec C t h (.bytes2str x) = (match x.ev t with
    | .slice none _ _ => some (str [], h)
    | .slice (some a) n _ => if n = 0 then some (str [], h) else match (readN C.old h a n).bind valsBytes with
      | some l => some (str l, h)
      | none => none
    | _ => none) := rfl
theorem ax_rune2str {x : AArg} : aexec C t h (.rune2str x) = (match x.ev t with
    | .int _ n => some (.string (Utf8.encode n), h)
    | _ => none) := rfl
theorem ax_mkIface {ty : TypeId} {x : AArg} : aexec C t h (.mkIface ty x) = (some (.iface ty (x.ev t), h)) := rfl
theorem ax_mkFunc {f : FuncId} {first : List AArg} {cap : List AArg} : aexec C t h (.mkFunc f first cap) = (some (.func (.func f) ⟨first.map (·.ev t)⟩ ⟨cap.map (·.ev t)⟩, h)) := rfl
theorem ax_mkMap : aexec C t h .mkMap = (some (.map (some h.bs.length), h.push (.map [] 0))) := rfl
theorem ax_mkSlice {e : TypeId} {k : Nat} {bytes : Nat} {zero : List Value} {l : AArg} {c : AArg} : aexec C t h (.mkSlice e k bytes zero l c) = (match asI (l.ev t), asI (c.ev t) with
    | some l, some c =>
      if 0 ≤ l ∧ l ≤ c ∧ c * bytes ≤ sizeLim ∧ c ≤ sizeLim ∧ zero.length = k ∧ zero.all okCell = true then
        (if c = 0 then some (emptySl, h) else some (.slice (some ⟨h.bs.length, 0, some 0⟩) l.toNat c.toNat, h.push (.cells (zeroFill zero c.toNat) (e + 1)))) else none
    | _, _ => none) := rfl
theorem ax_sliceStr {x : AArg} {lo : Option AArg} {hi : Option AArg} : aexec C t h (.sliceStr x lo hi) = (match x.ev t, optI t lo, optI t hi with
    | .string s, some lo, some hi =>
      let l := lo.getD 0
      let u := hi.getD s.size
      if 0 ≤ l ∧ l ≤ u ∧ u ≤ s.size then some (str ((s.data.toList.drop l.toNat).take (u.toNat - l.toNat)), h) else none
    | _, _, _ => none) := rfl
theorem ax_sliceSl {k : Nat} {x : AArg} {lo : Option AArg} {hi : Option AArg} {mx : Option AArg} : aexec C t h (.sliceSl k x lo hi mx) = (match optI t lo, optI t hi, optI t mx with
    | some lo, some hi, some mx => (sliceV h k (x.ev t) lo hi mx).map fun v => (v, h)
    | _, _, _ => none) := rfl
theorem ax_sliceArr {k : Nat} {n : Nat} {x : AArg} {lo : Option AArg} {hi : Option AArg} {mx : Option AArg} : aexec C t h (.sliceArr k n x lo hi mx) = (match ptrOf (x.ev t), optI t lo, optI t hi, optI t mx with
    | some a, some lo, some hi, some mx => if n = 0 then none else (sliceV h k (.slice (some a) n n) lo hi mx).map fun v => (v, h)
    | _, _, _, _ => none) := rfl
theorem ax_idxArr1 {len : Nat} {x : AArg} {i : AArg} : aexec C t h (.idxArr1 len x i) = (match asI (i.ev t) with
    | some i => if 0 ≤ i ∧ i < len then (part1 (x.ev t) i.toNat).map fun v => (v, h) else none
    | none => none) := rfl
theorem ax_idxArrN {len : Nat} {n : Nat} {x : AArg} {i : AArg} : aexec C t h (.idxArrN len n x i) = (match asI (i.ev t) with
    | some i => if 0 ≤ i ∧ i < len then (partN (x.ev t) (i.toNat * n) n).map fun v => (v, h) else none
    | none => none) := rfl
theorem ax_lookup {kk : CK} {zero : Value} {ok : Bool} {m : AArg} {k : AArg} : aexec C t h (.lookup kk zero ok m k) = (if keyFits kk (k.ev t) then
      match m.ev t with
      | .map none => some (if ok then .tuple #[zero, .bool false] else zero, h)
      | .map (some r) => match mapOf h r with
        | some (es, _) => match findE (k.ev t) es 0 with
          | some (some i) => (es[i]?).map fun e => (if ok then .tuple #[e.val, .bool true] else e.val, h)
          | some none => some (if ok then .tuple #[zero, .bool false] else zero, h)
          | none => none
        | none => none
      | _ => none
    else none) := rfl
theorem ax_mapUpd {kk : CK} {m : AArg} {k : AArg} {v : AArg} : aexec C t h (.mapUpd kk m k v) = (if keyFits kk (k.ev t) then
      match m.ev t with
      | .map (some r) => match mapOf h r with
        | some (es, c) => match findE (k.ev t) es 0 with
          | some (some i) => (setMap h r (es.modify i fun e => { e with val := v.ev t }) c).map fun h' => (.tuple #[], h')
          | some none => (setMap h r (es ++ [{ key := k.ev t, val := v.ev t, born := c }]) (c + 1)).map fun h' => (.tuple #[], h')
          | none => none
        | none => none
      | _ => none
    else none) := rfl
theorem ax_mapDel {kk : CK} {m : AArg} {k : AArg} : aexec C t h (.mapDel kk m k) = (if keyFits kk (k.ev t) then
      match m.ev t with
      | .map none => some (.tuple #[], h)
      | .map (some r) => match mapOf h r with
        | some (es, c) => match findE (k.ev t) es 0 with
          | some (some i) => (setMap h r (es.eraseIdx i) c).map fun h' => (.tuple #[], h')
          | some none => (setMap h r es c).map fun h' => (.tuple #[], h')
          | none => none
        | none => none
      | _ => none
    else none) := rfl
theorem ax_mapClear {m : AArg} : aexec C t h (.mapClear m) = (match m.ev t with
    | .map none => some (.tuple #[], h)
    | .map (some r) => match mapOf h r with
      | some (_, c) => (setMap h r [] c).map fun h' => (.tuple #[], h')
      | none => none
    | _ => none) := rfl
theorem ax_rangeStr {x : AArg} : aexec C t h (.rangeStr x) = (match x.ev t with
    | .string s => some (.pointer (some ⟨h.bs.length, 0, some 0⟩), h.push (.siter s.data.toList 0))
    | _ => none) := rfl
theorem ax_nextStr {it : AArg} : aexec C t h (.nextStr it) = (match it.ev t with
    | .pointer (some ⟨r, 0, some 0⟩) => match h.bs[r]? with
      | some (.siter s pos) =>
        if pos < s.length then
          (if r < h.lo then none else
          some (.tuple #[.bool true, .int .i64 pos, .int .i32 (utf8At s pos).1], h.put r (.siter s (pos + (utf8At s pos).2))))
        else some (.tuple #[.bool false], h)
      | _ => none
    | _ => none) := rfl
theorem ax_tassert {ty : TypeId} {zero : Value} {ok : Bool} {x : AArg} : aexec C t h (.tassert ty zero ok x) = (match x.ev t with
    | .iface ty' v => if ty' = ty then some (if ok then .tuple #[v, .bool true] else v, h) else if ok then some (.tuple #[zero, .bool false], h) else none
    | .nilIface => if ok then some (.tuple #[zero, .bool false], h) else none
    | _ => none) := rfl
theorem ax_lenS {x : AArg} : aexec C t h (.lenS x) = (match x.ev t with
    | .string s => some (.int .i64 s.size, h)
    | _ => none) := rfl
theorem ax_lenArr {n : Nat} : aexec C t h (.lenArr n) = (some (.int .i64 n, h)) := rfl
theorem ax_lenMap {x : AArg} : aexec C t h (.lenMap x) = (match x.ev t with
    | .map none => some (.int .i64 0, h)
    | .map (some r) => (mapOf h r).map fun (es, _) => (.int .i64 es.length, h)
    | _ => none) := rfl
theorem ax_cap {x : AArg} : aexec C t h (.cap x) = (match x.ev t with
    | .slice none _ _ => some (.int .i64 0, h)
    | .slice (some a) _ c => if isRest a c then none else some (.int .i64 c, h)
    | _ => none) := rfl
theorem ax_append {e : TypeId} {k : Nat} {bytes : Nat} {s : AArg} {x : AArg} : aexec C t h (.append e k bytes s x) = (appendV C.old h e k bytes (s.ev t) (x.ev t)) := rfl
theorem ax_copy {k : Nat} {d : AArg} {x : AArg} : aexec C t h (.copy k d x) = (copyV C.old h k (d.ev t) (x.ev t)) := rfl
theorem ax_min2 {x : AArg} {y : AArg} : aexec C t h (.min2 x y) = ((mm false (x.ev t) (y.ev t)).map fun v => (v, h)) := rfl
theorem ax_min3 {x y z : AArg} : aexec C t h (.min3 x y z) = (((mm false (x.ev t) (y.ev t)).bind fun v => mm false v (z.ev t)).map fun v => (v, h)) := rfl
theorem ax_max2 {x : AArg} {y : AArg} : aexec C t h (.max2 x y) = ((mm true (x.ev t) (y.ev t)).map fun v => (v, h)) := rfl
theorem ax_unsafeSliceData {x : AArg} : aexec C t h (.unsafeSliceData x) = (match x.ev t with
    | .slice none _ _ => some (.pointer none, h)
    | .slice (some a) _ c => if isRest a c then (if a.off + 2 ≤ tagOf a then some (.pointer (some a), h) else none) else if c = 0 then none else some (.pointer (some a), h)
    | _ => none) := rfl
theorem ax_unsafeStr {e : TypeId} {p : AArg} {n : AArg} : aexec C t h (.unsafeStr e p n) = (match p.ev t, n.ev t with
    | .pointer none, .int .i64 0 => some (str [], h)
    | .pointer (some ⟨b, 0, some tag⟩), .int .i64 n =>
      if n = 0 then some (str [], h) else
      if 0 < n ∧ n ≤ sizeLim then
        match (readN C.old h ⟨b, 0, some tag⟩ n.toNat).bind valsBytesE, h.bs[b]? with
        | some l, some (.grow c last fz k) => if b < h.lo ∨ fz ≠ e + 1 ∨ k ≠ 1 then none else some (str l, h.put b (.grow c last 0 k))
        | _, _ => none
      else none
    | _, _ => none) := rfl
theorem ax_toUnsafe {x : AArg} : aexec C t h (.toUnsafe x) = (match x.ev t with
    | .pointer none => some (.pointer none, h)
    | .pointer (some a) => match a.spot, h.bs[a.block]? with
      | some 0, some (.cells c _) => if a.off < c.length then some (.pointer (some a), h) else none
      | _, _ => none
    | _ => none) := rfl
theorem ax_fromUnsafe {e : TypeId} {x : AArg} : aexec C t h (.fromUnsafe e x) = (match x.ev t with
    | .pointer none => some (.pointer none, h)
    | .pointer (some a) => match a.spot, h.bs[a.block]? with
      | some 0, some (.cells c fz) => if fz ≠ 0 ∧ a.off < c.length ∧ C.lies (fz - 1) c.length a.off e = true then some (.pointer (some a), h) else none
      | _, _ => none
    | _ => none) := rfl
theorem ax_clearS {z : List Value} {x : AArg} : aexec C t h (.clearS z x) = (match x.ev t with
    | .slice none _ _ => some (.tuple #[], h)
    | .slice (some a) l _ => if l = 0 then some (.tuple #[], h) else (writeN h a (zeroFill z l)).map fun h' => (.tuple #[], h')
    | _ => none) := rfl
end
attribute [simp] ax_move ax_bin ax_un ax_eq ax_convInt ax_extract ax_len ax_pick ax_load1 ax_loadN ax_store1 ax_storeN ax_fieldAddr ax_idxAddrSl ax_idxAddrArr ax_idxStr ax_field1 ax_fieldN ax_box ax_build ax_buildSlice ax_nilCheck ax_convStr ax_str2bytes ax_bytes2str ax_rune2str ax_mkIface ax_mkFunc ax_mkMap ax_mkSlice ax_sliceStr ax_sliceSl ax_sliceArr ax_rangeStr ax_nextStr ax_tassert ax_lenS ax_lenArr ax_cap ax_append ax_copy ax_min2 ax_max2 ax_min3 ax_unsafeSliceData ax_unsafeStr ax_toUnsafe ax_fromUnsafe ax_clearS read1_rd readN_rd

theorem put_eq {h : AHeap} {i : Nat} {b : ABlock} (e : h.at i = some b) : h.put i b = h := by
  have hl := get_lt e
  unfold AHeap.put
  unfold AHeap.at at e
  obtain ⟨bs, lo⟩ := h
  congr 1
  apply List.ext_getElem?
  intro j
  rw [List.getElem?_set]
  by_cases hj : i = j
  · subst hj
    rw [if_pos rfl, if_pos hl]; exact e.symm
  · rw [if_neg hj]
theorem push_put {h : AHeap} {a b : ABlock} : (h.push a).put h.bs.length b = h.push b := by simp [AHeap.push, AHeap.put]
/-- memory with more behind -/
def AHeap.app (h : AHeap) (l : List ABlock) : AHeap := { h with bs := h.bs ++ l }
theorem app_nil {h : AHeap} : h.app [] = h := by simp [AHeap.app]
theorem app_app {h : AHeap} {l l' : List ABlock} : (h.app l).app l' = h.app (l ++ l') := by simp [AHeap.app]
theorem push_app {h : AHeap} {b : ABlock} : h.push b = h.app [b] := rfl
@[simp] theorem app_lo {h : AHeap} {l : List ABlock} : (h.app l).lo = h.lo := nr rfl
theorem app_lt {h : AHeap} {l : List ABlock} {i : Nat} (hi : i < h.bs.length) : (h.app l).at i = h.at i := by simp only [AHeap.app, AHeap.at]; rw [List.getElem?_append_left hi]
theorem app_old {h : AHeap} {l : List ABlock} {i : Nat} {x : ABlock} (e : h.at i = some x) : (h.app l).at i = some x := by rw [app_lt (get_lt e), e]
theorem app_ge {h : AHeap} {l : List ABlock} {i : Nat} : (h.app l).at (h.bs.length + i) = l[i]? := by simp only [AHeap.app, AHeap.at]; rw [List.getElem?_append_right (by omega), Nat.add_sub_cancel_left]
theorem app_len {h : AHeap} {l : List ABlock} : (h.app l).bs.length = h.bs.length + l.length := by simp [AHeap.app]
theorem app_put {h : AHeap} {l : List ABlock} {i : Nat} {b : ABlock} (hi : i < h.bs.length) : (h.app l).put i b = (h.put i b).app l := by
  simp only [AHeap.app, AHeap.put]; rw [List.set_append_left _ _ hi]
theorem app_put_ge {h : AHeap} {l : List ABlock} {i : Nat} {b : ABlock} : (h.app l).put (h.bs.length + i) b = h.app (l.set i b) := by
  simp only [AHeap.app, AHeap.put]; rw [List.set_append_right _ _ (by omega), Nat.add_sub_cancel_left]
end Go.Ab

/- SHA-256 as plain functions on words and lists of bytes. -/
namespace Go.Sha
abbrev W := BitVec 32
structure S8 where
  a : W
  b : W
  c : W
  d : W
  e : W
  f : W
  g : W
  h : W
  deriving DecidableEq, Inhabited

def kNat : List Nat := [
  0x428a2f98, 0x71374491, 0xb5c0fbcf, 0xe9b5dba5, 0x3956c25b, 0x59f111f1, 0x923f82a4, 0xab1c5ed5,
  0xd807aa98, 0x12835b01, 0x243185be, 0x550c7dc3, 0x72be5d74, 0x80deb1fe, 0x9bdc06a7, 0xc19bf174,
  0xe49b69c1, 0xefbe4786, 0x0fc19dc6, 0x240ca1cc, 0x2de92c6f, 0x4a7484aa, 0x5cb0a9dc, 0x76f988da,
  0x983e5152, 0xa831c66d, 0xb00327c8, 0xbf597fc7, 0xc6e00bf3, 0xd5a79147, 0x06ca6351, 0x14292967,
  0x27b70a85, 0x2e1b2138, 0x4d2c6dfc, 0x53380d13, 0x650a7354, 0x766a0abb, 0x81c2c92e, 0x92722c85,
  0xa2bfe8a1, 0xa81a664b, 0xc24b8b70, 0xc76c51a3, 0xd192e819, 0xd6990624, 0xf40e3585, 0x106aa070,
  0x19a4c116, 0x1e376c08, 0x2748774c, 0x34b0bcb5, 0x391c0cb3, 0x4ed8aa4a, 0x5b9cca4f, 0x682e6ff3,
  0x748f82ee, 0x78a5636f, 0x84c87814, 0x8cc70208, 0x90befffa, 0xa4506ceb, 0xbef9a3f7, 0xc67178f2]
def kW (t : Nat) : W := BitVec.ofNat 32 (kNat.getD t 0)
def iv : S8 := ⟨0x6a09e667, 0xbb67ae85, 0x3c6ef372, 0xa54ff53a, 0x510e527f, 0x9b05688c, 0x1f83d9ab, 0x5be0cd19⟩

def rr (x : W) (n : Nat) : W := x.rotateRight n
def s0 (x : W) : W := rr x 7 ^^^ rr x 18 ^^^ x >>> 3
def s1 (x : W) : W := rr x 17 ^^^ rr x 19 ^^^ x >>> 10
def b0 (x : W) : W := rr x 2 ^^^ rr x 13 ^^^ rr x 22
def b1 (x : W) : W := rr x 6 ^^^ rr x 11 ^^^ rr x 25
def ch (e f g : W) : W := (e &&& f) ^^^ (~~~e &&& g)
def maj (a b c : W) : W := (a &&& b) ^^^ (a &&& c) ^^^ (b &&& c)

def byteW (b : UInt8) : W := BitVec.ofNat 32 b.toNat
def be32 (l : List UInt8) : W := BitVec.ofNat 32 ((((l.getD 0 0).toNat * 256 + (l.getD 1 0).toNat) * 256 + (l.getD 2 0).toNat) * 256 + (l.getD 3 0).toNat)
/-- the first words of a block's schedule -/
def wl (b : List UInt8) : Nat → List W
  | 0 => []
  | t + 1 => wl b t ++ [if t < 16 then be32 (b.drop (4 * t)) else
      (wl b t).getD (t - 16) 0 + s0 ((wl b t).getD (t - 15) 0) + (wl b t).getD (t - 7) 0 + s1 ((wl b t).getD (t - 2) 0)]
theorem wl_length (b : List UInt8) (t : Nat) : (wl b t).length = t := by
  induction t with
  | zero => rfl
  | succ t ih => simp [wl, ih]
theorem getD_app_lt {α : Type} {l l' : List α} {i : Nat} {d : α} (h : i < l.length) : (l ++ l').getD i d = l.getD i d := by
  simp [List.getD_eq_getElem?_getD, List.getElem?_append_left h]
theorem getD_app_ge {α : Type} {l l' : List α} {i : Nat} {d : α} (h : l.length ≤ i) : (l ++ l').getD i d = l'.getD (i - l.length) d := by
  simp [List.getD_eq_getElem?_getD, List.getElem?_append_right h]
def wd (b : List UInt8) (t : Nat) : W := (wl b (t + 1)).getD t 0
theorem wl_getD (b : List UInt8) {i t : Nat} (h : i < t) : (wl b t).getD i 0 = wd b i := by
  induction t with
  | zero => omega
  | succ t ih =>
    unfold wd
    by_cases e : i = t
    · subst e; rfl
    · have hi : i < t := by omega
      have h1 : i < (wl b t).length := by rw [wl_length]; exact hi
      show (wl b t ++ _).getD i 0 = _
      rw [getD_app_lt h1]
      exact ih hi
theorem wd_lt (b : List UInt8) {t : Nat} (h : t < 16) : wd b t = be32 (b.drop (4 * t)) := by
  have := wl_length b t
  unfold wd
  show (wl b t ++ _).getD t 0 = _
  rw [getD_app_ge (by omega)]
  simp [wl_length, h]
theorem wd_ge (b : List UInt8) {t : Nat} (h : 16 ≤ t) : wd b t = wd b (t - 16) + s0 (wd b (t - 15)) + wd b (t - 7) + s1 (wd b (t - 2)) := by
  have := wl_length b t
  unfold wd
  show (wl b t ++ _).getD t 0 = _
  rw [getD_app_ge (by omega)]
  rw [wl_length, Nat.sub_self]
  show (if t < 16 then _ else _) = _
  rw [if_neg (by omega), wl_getD b (by omega : t - 16 < t), wl_getD b (by omega : t - 15 < t), wl_getD b (by omega : t - 7 < t), wl_getD b (by omega : t - 2 < t)]
  rfl
def rnd (s : S8) (k w : W) : S8 :=
  let p := s.h + b1 s.e + ch s.e s.f s.g + k + w
  let q := b0 s.a + maj s.a s.b s.c
  ⟨p + q, s.a, s.b, s.c, s.d + p, s.e, s.f, s.g⟩
def rounds (b : List UInt8) (s : S8) : Nat → S8
  | 0 => s
  | t + 1 => rnd (rounds b s t) (kW t) (wd b t)
def S8.add (s v : S8) : S8 := ⟨s.a + v.a, s.b + v.b, s.c + v.c, s.d + v.d, s.e + v.e, s.f + v.f, s.g + v.g, s.h + v.h⟩
def blk (s : S8) (b : List UInt8) : S8 := s.add (rounds b s 64)
/-- n blocks -/
def shaN : Nat → S8 → List UInt8 → S8
  | 0, s, _ => s
  | n + 1, s, l => shaN n (blk s (l.take 64)) (l.drop 64)
def absorb (s : S8) (r : List UInt8) : S8 × List UInt8 := (shaN (r.length / 64) s r, r.drop (r.length / 64 * 64))
def be64 (n : Nat) : List UInt8 := [56, 48, 40, 32, 24, 16, 8, 0].map fun k => UInt8.ofNat (n / 2 ^ k)
def zeros (len : Nat) : List UInt8 := List.replicate ((119 - len % 64) % 64) 0
def pad (l : List UInt8) : List UInt8 := l ++ 0x80 :: (zeros l.length ++ be64 (8 * l.length))
def wordBytes (w : W) : List UInt8 := [UInt8.ofNat (w.toNat / 2 ^ 24), UInt8.ofNat (w.toNat / 2 ^ 16), UInt8.ofNat (w.toNat / 2 ^ 8), UInt8.ofNat w.toNat]
def out (s : S8) : List UInt8 := wordBytes s.a ++ wordBytes s.b ++ wordBytes s.c ++ wordBytes s.d ++ wordBytes s.e ++ wordBytes s.f ++ wordBytes s.g ++ wordBytes s.h
def sha (l : List UInt8) : List UInt8 := out (absorb iv (pad l)).1

theorem shaN_append (n m : Nat) (s : S8) (l : List UInt8) : shaN (n + m) s l = shaN m (shaN n s l) (l.drop (n * 64)) := by
  induction n generalizing s l with
  | zero => simp [shaN]
  | succ n ih =>
    rw [show n + 1 + m = (n + m) + 1 from by omega]
    simp only [shaN]
    rw [ih, List.drop_drop]
    congr 2
    omega
theorem shaN_take (n : Nat) (s : S8) (l x : List UInt8) (h : n * 64 ≤ l.length) : shaN n s (l ++ x) = shaN n s l := by
  induction n generalizing s l with
  | zero => simp [shaN]
  | succ n ih =>
    simp only [shaN]
    rw [List.take_append_of_le_length (by omega), List.drop_append_of_le_length (by omega)]
    exact ih _ _ (by simp; omega)
/-- piece by piece is at once -/
theorem absorb_append (s : S8) (l x : List UInt8) : absorb (absorb s l).1 ((absorb s l).2 ++ x) = absorb s (l ++ x) := by
  unfold absorb
  have h1 : l.length / 64 * 64 ≤ l.length := Nat.div_mul_le_self _ _
  have e : List.drop (l.length / 64 * 64) l ++ x = (l ++ x).drop (l.length / 64 * 64) := by rw [List.drop_append_of_le_length h1]
  simp only
  rw [e]
  have hl : ((l ++ x).drop (l.length / 64 * 64)).length / 64 = (l ++ x).length / 64 - l.length / 64 := by
    simp only [List.length_drop, List.length_append]; omega
  have hle : l.length / 64 ≤ (l ++ x).length / 64 := by simp only [List.length_append]; omega
  rw [hl]
  congr 1
  · rw [← shaN_take (l.length / 64) s l x h1, ← shaN_append]
    congr 1; omega
  · rw [List.drop_drop]
    congr 1
    omega
theorem absorb_rest (s : S8) (l : List UInt8) : (absorb s l).2.length = l.length % 64 := by
  unfold absorb; simp only [List.length_drop]; omega
theorem absorb_short (s : S8) (l : List UInt8) (h : l.length < 64) : absorb s l = (s, l) := by
  unfold absorb
  have : l.length / 64 = 0 := by omega
  simp [this, shaN]
theorem absorb_block (s : S8) (l : List UInt8) (h : 64 ≤ l.length) : absorb s l = absorb (blk s (l.take 64)) (l.drop 64) := by
  unfold absorb
  obtain ⟨n, hn⟩ : ∃ n, l.length / 64 = n + 1 := ⟨l.length / 64 - 1, by omega⟩
  have : (l.drop 64).length / 64 = n := by simp only [List.length_drop]; omega
  rw [hn, this]
  simp only [shaN]
  congr 1
  rw [List.drop_drop]
  congr 1; omega
theorem out_length (s : S8) : (out s).length = 32 := rfl
theorem sha_length (l : List UInt8) : (sha l).length = 32 := rfl
end Go.Sha

/- Numbers, bytes and words as values that simp does not take apart. -/
namespace Go.Ab.Aud
/-- how literal code is written -/
abbrev oo (d : Nat) (op : AOp) : AOper := ⟨some d, none, op, []⟩
abbrev og (d g : Nat) (b : Bool) (op : AOp) : AOper := ⟨some d, some (g, b), op, []⟩
end Go.Ab.Aud
namespace Go.Ab
open Go.Sha
/-- an int that is no less than 0 -/
def iv (n : Nat) : Value := .int .i64 n
def uv (n : Nat) : Value := .int .u64 n
def bv (b : UInt8) : Value := .int .u8 b.toNat
def wv (x : BitVec 32) : Value := .int .u32 x.toNat
section
variable {C : Ctx} {rs : List ARes} {h : AHeap} {d : Nat} {os : List AOper} {k : List AItem} {t : List Value} {ds : List ADefer}
@[simp] theorem stp_iv {n : Nat} : stp C rs (some (iv n, h)) (some d) os k t ds = R C rs (.ops os :: k) (ts t d (iv n)) ds h := stp_ok rfl
@[simp] theorem stp_uv {n : Nat} : stp C rs (some (uv n, h)) (some d) os k t ds = R C rs (.ops os :: k) (ts t d (uv n)) ds h := stp_ok rfl
@[simp] theorem stp_bv {n : UInt8} : stp C rs (some (bv n, h)) (some d) os k t ds = R C rs (.ops os :: k) (ts t d (bv n)) ds h := stp_ok rfl
@[simp] theorem stp_wv {n : BitVec 32} : stp C rs (some (wv n, h)) (some d) os k t ds = R C rs (.ops os :: k) (ts t d (wv n)) ds h := stp_ok rfl
@[simp] theorem stp_str {n : List UInt8} : stp C rs (some (str n, h)) (some d) os k t ds = R C rs (.ops os :: k) (ts t d (str n)) ds h := stp_ok rfl
end
@[simp] theorem und_iv {n : Nat} : isUnd (iv n) = false := nr rfl
@[simp] theorem und_uv {n : Nat} : isUnd (uv n) = false := nr rfl
@[simp] theorem und_bv {n : UInt8} : isUnd (bv n) = false := nr rfl
@[simp] theorem und_wv {n : BitVec 32} : isUnd (wv n) = false := nr rfl
@[simp] theorem und_str {n : List UInt8} : isUnd (str n) = false := nr rfl
@[simp] theorem okc_iv {n : Nat} : okCell (iv n) = true := nr rfl
@[simp] theorem okc_uv {n : Nat} : okCell (uv n) = true := nr rfl
@[simp] theorem okc_bv {n : UInt8} : okCell (bv n) = true := nr rfl
@[simp] theorem okc_wv {n : BitVec 32} : okCell (wv n) = true := nr rfl
@[simp] theorem okc_str {n : List UInt8} : okCell (str n) = true := nr rfl
@[simp] theorem okc_slice {a : Option Addr} {l c : Nat} : okCell (.slice a l c) = true := nr rfl
@[simp] theorem okc_ptr {a : Option Addr} : okCell (.pointer a) = true := nr rfl
@[simp] theorem okc_bool {a : Bool} : okCell (.bool a) = true := nr rfl
@[simp] theorem okc_int {q : IntKind} {a : Int} : okCell (.int q a) = true := nr rfl
@[simp] theorem cell_iv {n : Nat} : cellsOf (iv n) = [iv n] := nr rfl
@[simp] theorem cell_uv {n : Nat} : cellsOf (uv n) = [uv n] := nr rfl
@[simp] theorem cell_bv {n : UInt8} : cellsOf (bv n) = [bv n] := nr rfl
@[simp] theorem cell_wv {n : BitVec 32} : cellsOf (wv n) = [wv n] := nr rfl
@[simp] theorem cell_str {n : List UInt8} : cellsOf (str n) = [str n] := nr rfl
@[simp] theorem cell_slice {a : Option Addr} {l c : Nat} : cellsOf (.slice a l c) = [.slice a l c] := nr rfl
@[simp] theorem cell_ptr {a : Option Addr} : cellsOf (.pointer a) = [.pointer a] := nr rfl
@[simp] theorem cell_bool {a : Bool} : cellsOf (.bool a) = [.bool a] := nr rfl
@[simp] theorem cell_agg {l : List Value} : cellsOf (.agg ⟨l⟩) = l := nr rfl
@[simp] theorem flat_iv {n : Nat} : flat (iv n) = true := nr rfl
@[simp] theorem flat_uv {n : Nat} : flat (uv n) = true := nr rfl
@[simp] theorem flat_bv {n : UInt8} : flat (bv n) = true := nr rfl
@[simp] theorem flat_wv {n : BitVec 32} : flat (wv n) = true := nr rfl
@[simp] theorem flat_bool {b : Bool} : flat (.bool b) = true := nr rfl
@[simp] theorem flat_int {q : IntKind} {b : Int} : flat (.int q b) = true := nr rfl
@[simp] theorem flat_str {b : List UInt8} : flat (str b) = true := nr rfl
@[simp] theorem pur_ok {v : Value} {h h' : AHeap} (e : flat v = true) : pur (some (v, h')) h = some (v, h) := pur_some e
theorem lit_iv {n : Nat} : Value.int .i64 (no_index (OfNat.ofNat n)) = iv (OfNat.ofNat n) := nr rfl
theorem lit_uv {n : Nat} : Value.int .u64 (no_index (OfNat.ofNat n)) = uv (OfNat.ofNat n) := nr rfl
theorem nat_iv {n : Nat} : Value.int .i64 (n : Int) = iv n := nr rfl
theorem nat_uv {n : Nat} : Value.int .u64 (n : Int) = uv n := nr rfl
theorem nat_bv {n : UInt8} : Value.int .u8 (n.toNat : Int) = bv n := nr rfl
theorem nat_wv {n : BitVec 32} : Value.int .u32 (n.toNat : Int) = wv n := nr rfl
theorem lit_bv (n : Nat) (h : n < 256) : Value.int .u8 (n : Int) = bv (UInt8.ofNat n) := by
  unfold bv; congr 1; simp; omega
@[simp] theorem asI_iv {n : Nat} : asI (iv n) = some (n : Int) := nr rfl
@[simp] theorem asI_uv {n : Nat} : asI (uv n) = some (n : Int) := nr rfl
@[simp] theorem asI_bv {n : UInt8} : asI (bv n) = some (n.toNat : Int) := nr rfl
@[simp] theorem asI_wv {n : BitVec 32} : asI (wv n) = some (n.toNat : Int) := nr rfl

theorem wrap32 (n : Int) : IntKind.u32.wrap n = n % 4294967296 := by simp [IntKind.wrap, IntKind.bits, IntKind.signed]
theorem wrap64u (n : Int) : IntKind.u64.wrap n = n % 18446744073709551616 := by simp [IntKind.wrap, IntKind.bits, IntKind.signed]
theorem wrap8u (n : Int) : IntKind.u8.wrap n = n % 256 := by simp [IntKind.wrap, IntKind.bits, IntKind.signed]
theorem wrapi64 (n : Int) (h0 : -9223372036854775808 ≤ n) (h1 : n < 9223372036854775808) : IntKind.i64.wrap n = n := by
  have e : IntKind.i64.wrap n = if (true && decide (n % 2 ^ 64 ≥ 2 ^ (64 - 1))) = true then n % 2 ^ 64 - 2 ^ 64 else n % 2 ^ 64 := rfl
  rw [e]
  simp only [Bool.true_and, decide_eq_true_eq]
  split <;> omega
theorem wrap_nat32 (n : Nat) : IntKind.u32.wrap (n : Int) = ((n % 4294967296 : Nat) : Int) := by rw [wrap32]; omega
theorem ofInt_nat (w n : Nat) : BitVec.ofInt w (n : Int) = BitVec.ofNat w n := by
  apply BitVec.eq_of_toNat_eq; simp [BitVec.toNat_ofNat]

section
variable {a b : Nat}
theorem iv_add (h : a + b < 9223372036854775808) : abin .add (iv a) (iv b) = some (iv (a + b)) := by
  simp only [abin, iv, abinI, if_true]; rw [wrapi64 _ (by omega) (by omega)]; rfl
theorem iv_sub (h : b ≤ a) (h2 : a < 9223372036854775808) : abin .sub (iv a) (iv b) = some (iv (a - b)) := by
  simp only [abin, iv, abinI, if_true]; rw [wrapi64 _ (by omega) (by omega)]; congr 2; omega
theorem iv_mul (h : a * b < 9223372036854775808) : abin .mul (iv a) (iv b) = some (iv (a * b)) := by
  have e : (a : Int) * b = ((a * b : Nat) : Int) := by push_cast; rfl
  simp only [abin, iv, abinI, if_true]; rw [e, wrapi64 _ (by omega) (by omega)]
theorem iv_rem (h : 0 < b) (h2 : a < 9223372036854775808) : abin .rem (iv a) (iv b) = some (iv (a % b)) := by
  simp only [abin, iv, abinI, if_true]; rw [if_neg (by omega)]; congr 2
theorem iv_quo (h : 0 < b) (h2 : a < 9223372036854775808) : abin .quo (iv a) (iv b) = some (iv (a / b)) := by
  have := Nat.div_le_self a b
  have e : Int.tdiv (a : Int) (b : Int) = ((a / b : Nat) : Int) := rfl
  have e0 : (0 : Int) ≤ ((a / b : Nat) : Int) := Int.natCast_nonneg _
  simp only [abin, iv, abinI, if_true]; rw [if_neg (by omega), e, wrapi64 _ (by omega) (by omega)]
@[simp] theorem iv_lss : abin .lss (iv a) (iv b) = some (.bool (decide (a < b))) := by simp [abin, iv, abinI]
@[simp] theorem iv_leq : abin .leq (iv a) (iv b) = some (.bool (decide (a ≤ b))) := by simp [abin, iv, abinI]
@[simp] theorem iv_gtr : abin .gtr (iv a) (iv b) = some (.bool (decide (b < a))) := by simp [abin, iv, abinI]
@[simp] theorem iv_geq : abin .geq (iv a) (iv b) = some (.bool (decide (b ≤ a))) := by simp [abin, iv, abinI]
@[simp] theorem iv_eql : abin .eql (iv a) (iv b) = some (.bool (decide (a = b))) := by simp [abin, iv, abinI]; omega
@[simp] theorem iv_neq : abin .neq (iv a) (iv b) = some (.bool (!decide (a = b))) := by simp [abin, iv, abinI]; omega
theorem uv_add (h : a + b < 18446744073709551616) : abin .add (uv a) (uv b) = some (uv (a + b)) := by
  simp only [abin, uv, abinI, if_true, wrap64u]; congr 2; omega
theorem uv_add' : abin .add (uv a) (uv b) = some (uv ((a + b) % 18446744073709551616)) := by
  simp only [abin, uv, abinI, if_true, wrap64u]; congr 2
theorem uv_sub (h : b ≤ a) (h2 : a < 18446744073709551616) : abin .sub (uv a) (uv b) = some (uv (a - b)) := by
  simp only [abin, uv, abinI, if_true, wrap64u]; congr 2; omega
theorem uv_mul (h : a * b < 18446744073709551616) : abin .mul (uv a) (uv b) = some (uv (a * b)) := by
  simp only [abin, uv, abinI, if_true, wrap64u]; congr 2
  have e : (a : Int) * b = ((a * b : Nat) : Int) := by push_cast; rfl
  rw [e]; omega
theorem uv_mul' : abin .mul (uv a) (uv b) = some (uv (a * b % 18446744073709551616)) := by
  simp only [abin, uv, abinI, if_true, wrap64u]; congr 2
theorem uv_rem (h : 0 < b) : abin .rem (uv a) (uv b) = some (uv (a % b)) := by
  simp only [abin, uv, abinI, if_true]; rw [if_neg (by omega)]; congr 2
theorem uv_quo (h : 0 < b) (h2 : a < 18446744073709551616) : abin .quo (uv a) (uv b) = some (uv (a / b)) := by
  have := Nat.div_le_self a b
  have e : Int.tdiv (a : Int) (b : Int) = ((a / b : Nat) : Int) := rfl
  have e0 : (0 : Int) ≤ ((a / b : Nat) : Int) := Int.natCast_nonneg _
  simp only [abin, uv, abinI, if_true]; rw [if_neg (by omega), e, wrap64u]; congr 2; omega
@[simp] theorem uv_lss : abin .lss (uv a) (uv b) = some (.bool (decide (a < b))) := by simp [abin, uv, abinI]
@[simp] theorem uv_leq : abin .leq (uv a) (uv b) = some (.bool (decide (a ≤ b))) := by simp [abin, uv, abinI]
@[simp] theorem uv_gtr : abin .gtr (uv a) (uv b) = some (.bool (decide (b < a))) := by simp [abin, uv, abinI]
@[simp] theorem uv_geq : abin .geq (uv a) (uv b) = some (.bool (decide (b ≤ a))) := by simp [abin, uv, abinI]
@[simp] theorem uv_eql : abin .eql (uv a) (uv b) = some (.bool (decide (a = b))) := by simp [abin, uv, abinI]; omega
@[simp] theorem uv_neq : abin .neq (uv a) (uv b) = some (.bool (!decide (a = b))) := by simp [abin, uv, abinI]; omega
theorem uv_shr (h : b < 64) : abin .shr (uv a) (uv b) = some (uv (a / 2 ^ b)) := by
  have h1 : min b 64 = b := by omega
  simp only [abin, uv, ashift, IntKind.bits, Int.toNat_natCast, h1]
  rw [if_neg (by omega)]
  congr 2
  have : ((2 : Int) ^ b) = ((2 ^ b : Nat) : Int) := by push_cast; rfl
  rw [this, Int.fdiv_eq_ediv_of_nonneg _ (Int.natCast_nonneg _)]
  exact (Int.natCast_ediv _ _).symm
theorem uv_shl (h : b < 64) (h2 : a * 2 ^ b < 18446744073709551616) : abin .shl (uv a) (uv b) = some (uv (a * 2 ^ b)) := by
  have h1 : min b 64 = b := by omega
  simp only [abin, uv, ashift, IntKind.bits, Int.toNat_natCast, h1]
  rw [if_neg (by omega)]
  congr 2
  have : ((a : Int) * 2 ^ b) = ((a * 2 ^ b : Nat) : Int) := by push_cast; rfl
  rw [this, wrap64u]; omega
theorem uv_shli (h : b < 64) (h2 : a * 2 ^ b < 18446744073709551616) : abin .shl (uv a) (iv b) = some (uv (a * 2 ^ b)) := uv_shl h h2
theorem uv_shri (h : b < 64) : abin .shr (uv a) (iv b) = some (uv (a / 2 ^ b)) := uv_shr h
end
section
variable {x y : BitVec 32}
theorem ofInt_word : BitVec.ofInt 32 (x.toNat : Int) = x := by rw [ofInt_nat]; simp
@[simp] theorem w_add : abin .add (wv x) (wv y) = some (wv (x + y)) := by
  simp [wv, abin, abinI, wrap32, BitVec.toNat_add]
theorem w_and_e : abin .and (wv x) (wv y) = some (.int .u32 (IntKind.u32.wrap ((BitVec.ofInt 32 (x.toNat : Int) &&& BitVec.ofInt 32 (y.toNat : Int) : BitVec 32).toNat : Int))) := rfl
@[simp] theorem w_and : abin .and (wv x) (wv y) = some (wv (x &&& y)) := by
  rw [w_and_e, ofInt_word, ofInt_word, wrap_nat32, Nat.mod_eq_of_lt (x &&& y).isLt]; rfl
theorem w_or_e : abin .or (wv x) (wv y) = some (.int .u32 (IntKind.u32.wrap ((BitVec.ofInt 32 (x.toNat : Int) ||| BitVec.ofInt 32 (y.toNat : Int) : BitVec 32).toNat : Int))) := rfl
@[simp] theorem w_or : abin .or (wv x) (wv y) = some (wv (x ||| y)) := by
  rw [w_or_e, ofInt_word, ofInt_word, wrap_nat32, Nat.mod_eq_of_lt (x ||| y).isLt]; rfl
theorem w_xor_e : abin .xor (wv x) (wv y) = some (.int .u32 (IntKind.u32.wrap ((BitVec.ofInt 32 (x.toNat : Int) ^^^ BitVec.ofInt 32 (y.toNat : Int) : BitVec 32).toNat : Int))) := rfl
@[simp] theorem w_xor : abin .xor (wv x) (wv y) = some (wv (x ^^^ y)) := by
  rw [w_xor_e, ofInt_word, ofInt_word, wrap_nat32, Nat.mod_eq_of_lt (x ^^^ y).isLt]; rfl
@[simp] theorem w_not : aun .xor (wv x) = some (wv (~~~x)) := by
  have e : aun .xor (wv x) = some (.int .u32 (IntKind.u32.wrap ((BitVec.ofInt 32 (2 ^ 32 - 1) ^^^ BitVec.ofInt 32 (x.toNat : Int) : BitVec 32).toNat : Int))) := rfl
  have h1 : BitVec.ofInt 32 (2 ^ 32 - 1) = BitVec.allOnes 32 := by decide
  have h2 : BitVec.allOnes 32 ^^^ x = ~~~x := BitVec.allOnes_xor
  rw [e, ofInt_word, h1, h2, wrap_nat32, Nat.mod_eq_of_lt (~~~x).isLt]; rfl
theorem w_shl {n : Nat} (hn : n < 32) : abin .shl (wv x) (uv n) = some (wv (x <<< n)) := by
  have h1 : min n 32 = n := by omega
  simp only [wv, uv, abin, ashift, IntKind.bits, Int.toNat_natCast, h1]
  rw [if_neg (by omega)]
  simp only [Option.some.injEq, Value.int.injEq, true_and]
  rw [BitVec.toNat_shiftLeft, Nat.shiftLeft_eq, wrap32]
  have : ((x.toNat : Int) * 2 ^ n) = ((x.toNat * 2 ^ n : Nat) : Int) := by push_cast; rfl
  rw [this]; omega
theorem w_shr {n : Nat} (hn : n < 32) : abin .shr (wv x) (uv n) = some (wv (x >>> n)) := by
  have h1 : min n 32 = n := by omega
  simp only [wv, uv, abin, ashift, IntKind.bits, Int.toNat_natCast, h1]
  rw [if_neg (by omega)]
  simp only [Option.some.injEq, Value.int.injEq, true_and]
  rw [BitVec.toNat_ushiftRight, Nat.shiftRight_eq_div_pow]
  have : ((2 : Int) ^ n) = ((2 ^ n : Nat) : Int) := by push_cast; rfl
  rw [this, Int.fdiv_eq_ediv_of_nonneg _ (Int.natCast_nonneg _)]
  exact Int.natCast_ediv _ _ |>.symm
end
theorem and_mask {m : Nat} (hm : m < 18446744073709551616) (j : Nat) (hj : j < 64) : abin .and (uv m) (uv (2 ^ j - 1)) = some (uv (m % 2 ^ j)) := by
  have e : abin .and (uv m) (uv (2 ^ j - 1)) = some (.int .u64 (IntKind.u64.wrap ((BitVec.ofInt 64 (m : Int) &&& BitVec.ofInt 64 ((2 ^ j - 1 : Nat) : Int) : BitVec 64).toNat : Int))) := rfl
  have h2 : 2 ^ j - 1 < 18446744073709551616 := by
    have : 2 ^ j ≤ 2 ^ 64 := Nat.pow_le_pow_right (by omega) (by omega)
    omega
  rw [e, ofInt_nat, ofInt_nat, BitVec.toNat_and, BitVec.toNat_ofNat, BitVec.toNat_ofNat, Nat.mod_eq_of_lt (a := m) (by omega), Nat.mod_eq_of_lt (a := 2 ^ j - 1) (by omega), Nat.and_two_pow_sub_one_eq_mod, wrap64u]
  have := Nat.mod_le m (2 ^ j)
  unfold uv
  congr 2
  omega
/- conversions -/
@[simp] theorem cvt_bw {b : UInt8} : cvt .u32 (bv b) = some (wv (byteW b)) := by
  simp only [cvt, asI_bv, Option.map_some, wrap_nat32]; unfold wv byteW; simp
theorem cvt_ui {n : Nat} (h : n < 9223372036854775808) : cvt .i64 (uv n) = some (iv n) := by
  simp only [cvt, asI_uv, Option.map_some]; rw [wrapi64 _ (by omega) (by omega)]; rfl
theorem cvt_iu {n : Nat} (h : n < 18446744073709551616) : cvt .u64 (iv n) = some (uv n) := by
  simp only [cvt, asI_iv, Option.map_some, wrap64u]; unfold uv; congr 2; omega
theorem cvt_ii {n : Nat} (h : n < 9223372036854775808) : cvt .i64 (iv n) = some (iv n) := by
  simp only [cvt, asI_iv, Option.map_some]; rw [wrapi64 _ (by omega) (by omega)]; rfl
@[simp] theorem cvt_bu {b : UInt8} : cvt .u64 (bv b) = some (uv b.toNat) := by
  have := b.toNat_lt
  simp only [cvt, asI_bv, Option.map_some, wrap64u]; unfold uv; congr 2; omega
@[simp] theorem cvt_bi {b : UInt8} : cvt .i64 (bv b) = some (iv b.toNat) := by
  have := b.toNat_lt
  simp only [cvt, asI_bv, Option.map_some]; rw [wrapi64 _ (by omega) (by omega)]; rfl
theorem u8_mod (n : Nat) : ((n : Int) % 256) = ((UInt8.ofNat n).toNat : Int) := by simp
@[simp] theorem cvt_ub {n : Nat} : cvt .u8 (uv n) = some (bv (UInt8.ofNat n)) := by
  simp only [cvt, asI_uv, Option.map_some, wrap8u, u8_mod]; rfl
@[simp] theorem cvt_ib {n : Nat} : cvt .u8 (iv n) = some (bv (UInt8.ofNat n)) := by
  simp only [cvt, asI_iv, Option.map_some, wrap8u, u8_mod]; rfl
@[simp] theorem cvt_wb {x : BitVec 32} : cvt .u8 (wv x) = some (bv (UInt8.ofNat x.toNat)) := by
  simp only [cvt, asI_wv, Option.map_some, wrap8u, u8_mod]; rfl
@[simp] theorem cvt_wu {x : BitVec 32} : cvt .u64 (wv x) = some (uv x.toNat) := by
  have := x.isLt
  simp only [cvt, asI_wv, Option.map_some, wrap64u]; unfold uv; congr 2; omega
theorem cvt_iwrap {z : Int} : cvt .u64 (.int .i64 z) = some (.int .u64 (IntKind.u64.wrap z)) := rfl
/- places -/
theorem ixS_iv {k len c i : Nat} {a : Addr} (h : i < len) : ixS k (.slice (some a) len c) (iv i) = some (.pointer (some (adda a (i * k)))) := by
  unfold iv; rw [ixS_ok (by omega) (by omega)]; simp
theorem ixS_uv {k len c i : Nat} {a : Addr} (h : i < len) : ixS k (.slice (some a) len c) (uv i) = some (.pointer (some (adda a (i * k)))) := by
  unfold uv; rw [ixS_ok (by omega) (by omega)]; simp
theorem ixA_iv {k len i : Nat} {a : Addr} (h : i < len) : ixA k len (.pointer (some a)) (iv i) = some (.pointer (some (adda a (i * k)))) := by
  unfold iv; rw [ixA_ok (by omega) (by omega)]; simp
theorem ixA_uv {k len i : Nat} {a : Addr} (h : i < len) : ixA k len (.pointer (some a)) (uv i) = some (.pointer (some (adda a (i * k)))) := by
  unfold uv; rw [ixA_ok (by omega) (by omega)]; simp
theorem ixA_wv {k len : Nat} {i : BitVec 32} {a : Addr} (h : i.toNat < len) : ixA k len (.pointer (some a)) (wv i) = some (.pointer (some (adda a (i.toNat * k)))) := by
  unfold wv; rw [ixA_ok (by omega) (by omega)]; simp
@[simp] theorem mm_iv {mx : Bool} {a b : Nat} : mm mx (iv a) (iv b) = some (iv (if mx then max a b else min a b)) := by
  simp only [mm, iv]
  cases mx <;> simp only [Bool.false_eq_true, if_false, if_true] <;> congr 2 <;> split <;> omega
/-- a byte of a list -/
def gb (l : List UInt8) (i : Nat) : UInt8 := l.getD i 0
@[simp] theorem bytes_nil : bytesVals [] = [] := nr rfl
theorem bytesVals_eq (l : List UInt8) : bytesVals l = l.map bv := rfl
theorem bytes_get {l : List UInt8} {i : Nat} : (bytesVals l)[i]? = l[i]?.map bv := by simp [bytesVals_eq]
@[simp] theorem bytes_len {l : List UInt8} : (bytesVals l).length = l.length := by simp [bytesVals_eq]
theorem bytes_ok {l : List UInt8} : (bytesVals l).all okCell = true := by simp [bytesVals_eq]
theorem flat_bytes {l : List UInt8} : flat (.agg ⟨bytesVals l⟩) = true := by
  simp only [flat, flat2, bytesVals_eq, List.all_map, List.all_eq_true]
  intro x _; rfl
theorem bytes_app {l l' : List UInt8} : bytesVals (l ++ l') = bytesVals l ++ bytesVals l' := by simp [bytesVals_eq]
@[simp] theorem okc_map {a : Option Nat} : okCell (.map a) = true := nr rfl
@[simp] theorem okc_string {a : ByteArray} : okCell (.string a) = true := nr rfl
@[simp] theorem okc_nilI : okCell .nilIface = true := nr rfl
@[simp] theorem okc_iface {e : TypeId} {a : Value} : okCell (.iface e a) = true := nr rfl
@[simp] theorem okc_nilF : okCell .nilFunc = true := nr rfl
@[simp] theorem okc_func {f : Fn} {a b : Array Value} : okCell (.func f a b) = true := nr rfl
@[simp] theorem part_iv {n : Nat} : partOk (iv n) = true := nr rfl
@[simp] theorem part_uv {n : Nat} : partOk (uv n) = true := nr rfl
@[simp] theorem part_bv {n : UInt8} : partOk (bv n) = true := nr rfl
@[simp] theorem part_wv {n : BitVec 32} : partOk (wv n) = true := nr rfl
@[simp] theorem part_str {n : List UInt8} : partOk (str n) = true := nr rfl
@[simp] theorem part_bool {n : Bool} : partOk (.bool n) = true := nr rfl
@[simp] theorem part_int {q : IntKind} {n : Int} : partOk (.int q n) = true := nr rfl
@[simp] theorem part_ptr {n : Option Addr} : partOk (.pointer n) = true := nr rfl
@[simp] theorem part_slice {a : Option Addr} {l c : Nat} : partOk (.slice a l c) = true := nr rfl
@[simp] theorem part_agg {n : Array Value} : partOk (.agg n) = true := nr rfl
@[simp] theorem part_map {n : Option Nat} : partOk (.map n) = true := nr rfl
@[simp] theorem part_string {n : ByteArray} : partOk (.string n) = true := nr rfl
@[simp] theorem part_nilI  : partOk (.nilIface) = true := nr rfl
@[simp] theorem part_iface {e : TypeId} {a : Value} : partOk (.iface e a) = true := nr rfl
@[simp] theorem part_nilF  : partOk (.nilFunc) = true := nr rfl
@[simp] theorem part_func {f : Fn} {a b : Array Value} : partOk (.func f a b) = true := nr rfl
def elt1 (len : Nat) (v i : Value) : Option Value := match asI i with
  | some i => if 0 ≤ i ∧ i < len then part1 v i.toNat else none
  | none => none
def eltN (len n : Nat) (v i : Value) : Option Value := match asI i with
  | some i => if 0 ≤ i ∧ i < len then partN v (i.toNat * n) n else none
  | none => none
section
variable {C : Ctx} {t : List Value} {h : AHeap}
theorem ay_idxArr1 {n : Nat} {x y : AArg} : aexec C t h (.idxArr1 n x y) = vh h (elt1 n (x.ev t) (y.ev t)) := by
  simp only [aexec, elt1, map_vh]
  cases asI (y.ev t) with
  | none => rfl
  | some i => simp only; split <;> rfl
theorem ay_idxArrN {n m : Nat} {x y : AArg} : aexec C t h (.idxArrN n m x y) = vh h (eltN n m (x.ev t) (y.ev t)) := by
  simp only [aexec, eltN, map_vh]
  cases asI (y.ev t) with
  | none => rfl
  | some i => simp only; split <;> rfl
end
theorem elt1_iv {len i : Nat} {l : List Value} (h : i < len) : elt1 len (.agg ⟨l⟩) (iv i) = l[i]? := by
  simp only [elt1, asI_iv]
  rw [if_pos ⟨by omega, by omega⟩]; simp [part1]
theorem eltN_iv {len n i : Nat} {l : List Value} (h : i < len) (h2 : i * n + n ≤ l.length) : eltN len n (.agg ⟨l⟩) (iv i) = some (.agg ⟨(l.drop (i * n)).take n⟩) := by
  simp only [eltN, asI_iv]
  rw [if_pos ⟨by omega, by omega⟩]; simp [partN, h2]
theorem nilOk_ptr {a : Addr} : nilOk (.pointer (some a)) = true := nr rfl
theorem nilOk_iface {e : TypeId} {v : Value} : nilOk (.iface e v) = true := nr rfl
theorem part1_agg {l : List Value} {i : Nat} : part1 (.agg ⟨l⟩) i = l[i]? := nr rfl
theorem partN_agg {l : List Value} {i n : Nat} (h : i + n ≤ l.length) : partN (.agg ⟨l⟩) i n = some (.agg ⟨(l.drop i).take n⟩) := by simp [partN, h]
@[simp] theorem und_empty : isUnd emptySl = false := nr rfl
@[simp] theorem okc_empty : okCell emptySl = true := nr rfl
@[simp] theorem part_empty : partOk emptySl = true := nr rfl
@[simp] theorem cell_int {q : IntKind} {n : Int} : cellsOf (.int q n) = [.int q n] := nr rfl
@[simp] theorem cell_map {a : Option Nat} : cellsOf (.map a) = [.map a] := nr rfl
@[simp] theorem cell_iface {e : TypeId} {v : Value} : cellsOf (.iface e v) = [.iface e v] := nr rfl
@[simp] theorem cell_nilI : cellsOf .nilIface = [.nilIface] := nr rfl
@[simp] theorem cell_nilF : cellsOf .nilFunc = [.nilFunc] := nr rfl
@[simp] theorem cell_func {f : Fn} {a b : Array Value} : cellsOf (.func f a b) = [.func f a b] := nr rfl
@[simp] theorem cell_string {b : ByteArray} : cellsOf (.string b) = [.string b] := nr rfl
@[simp] theorem cell_empty : cellsOf emptySl = [emptySl] := nr rfl
@[simp] theorem stp_empty {C : Ctx} {rs : List ARes} {h : AHeap} {d : Nat} {os : List AOper} {k : List AItem} {t : List Value} {ds : List ADefer} : stp C rs (some (emptySl, h)) (some d) os k t ds = R C rs (.ops os :: k) (ts t d emptySl) ds h := stp_ok rfl
attribute [simp] ay_idxArr1 ay_idxArrN nilOk_ptr nilOk_iface part1_agg lit_iv lit_uv nat_iv nat_uv nat_bv nat_wv
end Go.Ab

/- Rows that are built by appending: who owns their memory. -/
namespace Go.Ab
/-- the row v, of n elements, reads as the cells c, and may be appended to -/
def Own (h : AHeap) (e k : Nat) (v : Value) (n : Nat) (c : List Value) : Prop :=
  ((v = .slice none 0 0 ∨ v = emptySl) ∧ n = 0 ∧ c = []) ∨ ∃ b g last, v = .slice (some ⟨b, 0, some (g.length + 1)⟩) n 0 ∧ h.at b = some (.grow g last (e + 1) k) ∧ last ≤ g.length ∧ n * k ≤ g.length ∧ g.take (n * k) = c ∧ h.lo ≤ b
/-- whose block is it? -/
def blkOf : Value → Option Nat
  | .slice (some ⟨b, _, some (_ + 1)⟩) _ _ => some b
  | _ => none
/-- what was there, but for some blocks, is as it was -/
def Fr (h h' : AHeap) (S : Nat → Prop) : Prop := h'.lo = h.lo ∧ h.bs.length ≤ h'.bs.length ∧ ∀ j, j < h.bs.length → ¬ S j → h'.at j = h.at j
theorem Fr.refl (h : AHeap) (S : Nat → Prop) : Fr h h S := ⟨rfl, Nat.le_refl _, fun _ _ _ => rfl⟩
theorem Fr.lo {h h' : AHeap} {S : Nat → Prop} (f : Fr h h' S) : h'.lo = h.lo := f.1
theorem Fr.len {h h' : AHeap} {S : Nat → Prop} (f : Fr h h' S) : h.bs.length ≤ h'.bs.length := f.2.1
theorem Fr.at {h h' : AHeap} {S : Nat → Prop} (f : Fr h h' S) {j : Nat} (hj : j < h.bs.length) (hn : ¬ S j) : h'.at j = h.at j := f.2.2 j hj hn
theorem Fr.get {h h' : AHeap} {S : Nat → Prop} (f : Fr h h' S) {j : Nat} {b : ABlock} (e : h.at j = some b) (hn : ¬ S j) : h'.at j = some b := by rw [f.at (get_lt e) hn, e]
theorem Fr.trans {h h' h'' : AHeap} {S S' S'' : Nat → Prop} (f : Fr h h' S) (g : Fr h' h'' S') (h1 : ∀ j, S j → S'' j) (h2 : ∀ j, S' j → j < h.bs.length → S'' j) : Fr h h'' S'' := by
  refine ⟨by rw [g.1, f.1], by have := f.2.1; have := g.2.1; omega, fun j hj hn => ?_⟩
  rw [g.2.2 j (by have := f.2.1; omega) (fun hc => hn (h2 j hc hj)), f.2.2 j hj (fun hc => hn (h1 j hc))]
theorem Fr.mono {h h' : AHeap} {S S' : Nat → Prop} (f : Fr h h' S) (hs : ∀ j, S j → j < h.bs.length → S' j) : Fr h h' S' := ⟨f.1, f.2.1, fun j hj hn => f.2.2 j hj (fun hc => hn (hs j hc hj))⟩
theorem Fr.push {h : AHeap} {b : ABlock} {S : Nat → Prop} : Fr h (h.push b) S := ⟨rfl, by simp, fun j hj _ => push_lt hj⟩
theorem Fr.put {h : AHeap} {i : Nat} {b : ABlock} {S : Nat → Prop} (hi : S i) : Fr h (h.put i b) S := ⟨rfl, by simp, fun j hj hn => put_ne (fun hc => hn (by rw [← hc]; exact hi))⟩
theorem Fr.app {h : AHeap} {l : List ABlock} {S : Nat → Prop} : Fr h (h.app l) S := ⟨rfl, by rw [app_len]; omega, fun j hj _ => app_lt hj⟩

theorem Fr.push' {h h' : AHeap} {b : ABlock} {S : Nat → Prop} (f : Fr h h' S) : Fr h (h'.push b) S := f.trans Fr.push (S' := fun _ => False) (fun _ h => h) (fun _ h _ => h.elim)
theorem Fr.put' {h h' : AHeap} {i : Nat} {b : ABlock} {S : Nat → Prop} (f : Fr h h' S) (hi : S i ∨ h.bs.length ≤ i) : Fr h (h'.put i b) S :=
  f.trans (Fr.put (S := fun j => j = i) rfl) (fun _ h => h) (fun j hj hl => by
    subst hj
    exact hi.resolve_right (by omega))
theorem Fr.step {h h' h'' : AHeap} {S S' : Nat → Prop} (f : Fr h h' S) (g : Fr h' h'' S') (hs : ∀ j, S' j → j < h.bs.length → S j) : Fr h h'' S := f.trans g (fun _ h => h) hs
theorem Own.nil {h : AHeap} {e k : Nat} : Own h e k (.slice none 0 0) 0 [] := .inl ⟨.inl rfl, rfl, rfl⟩
theorem Own.empty {h : AHeap} {e k : Nat} : Own h e k emptySl 0 [] := .inl ⟨.inr rfl, rfl, rfl⟩
theorem Own.slice {h : AHeap} {e k n : Nat} {v : Value} {c : List Value} (o : Own h e k v n c) : ∃ a cp, v = .slice a n cp := by
  rcases o with ⟨rfl | rfl, rfl, _⟩ | ⟨b, g, last, rfl, _⟩
  · exact ⟨_, _, rfl⟩
  · exact ⟨_, _, rfl⟩
  · exact ⟨_, _, rfl⟩
theorem Own.len {h : AHeap} {e k n : Nat} {v : Value} {c : List Value} (o : Own h e k v n c) : c.length = n * k := by
  rcases o with ⟨_, rfl, rfl⟩ | ⟨b, g, last, _, _, _, h3, rfl, _⟩
  · simp
  · simp; omega
theorem Own.fr {h h' : AHeap} {e k n : Nat} {v : Value} {c : List Value} {S : Nat → Prop} (w : Own h e k v n c) (f : Fr h h' S) (hn : ∀ j, blkOf v = some j → ¬ S j) : Own h' e k v n c := by
  rcases w with h0 | ⟨b, g, last, rfl, h1, h2, h3, h4, h5⟩
  · exact .inl h0
  · exact .inr ⟨b, g, last, rfl, f.get h1 (hn b rfl), h2, h3, h4, by rw [f.lo]; exact h5⟩
theorem Own.blk {h : AHeap} {e k n : Nat} {v : Value} {c : List Value} {j : Nat} (w : Own h e k v n c) (hj : blkOf v = some j) : j < h.bs.length := by
  rcases w with ⟨rfl | rfl, rfl, rfl⟩ | ⟨b, g, last, rfl, h1, h2, h3, h4, h5⟩
  · cases hj
  · cases hj
  · cases hj; exact get_lt h1
theorem Own.und {h : AHeap} {e k n : Nat} {v : Value} {c : List Value} (o : Own h e k v n c) : isUnd v = false := by
  obtain ⟨a, cp, rfl⟩ := o.slice
  rfl
theorem Own.okc {h : AHeap} {e k n : Nat} {v : Value} {c : List Value} (o : Own h e k v n c) : okCell v = true := by
  obtain ⟨a, cp, rfl⟩ := o.slice
  rfl
theorem Own.lenV {h : AHeap} {e k n : Nat} {v : Value} {c : List Value} (o : Own h e k v n c) : lenV v = some (iv n) := by
  obtain ⟨a, cp, rfl⟩ := o.slice
  rfl
theorem Own.cells {h : AHeap} {e k n : Nat} {v : Value} {c : List Value} (o : Own h e k v n c) : cellsOf v = [v] := by
  obtain ⟨a, cp, rfl⟩ := o.slice
  rfl
theorem Own.part {h : AHeap} {e k n : Nat} {v : Value} {c : List Value} (o : Own h e k v n c) : partOk v = true := by
  obtain ⟨a, cp, rfl⟩ := o.slice
  rfl
/-- a slice of one cell that was just laid -/
theorem sl1 {old : Old} {h : AHeap} {x : Value} {fz : Nat} : (h.push (.cells [x] fz)).at h.bs.length = some (.cells [x] fz) := push_self
theorem isRest_own {b l : Nat} : isRest ⟨b, 0, some (l + 1)⟩ 0 = true := rfl
/-- appending to a row that is owned -/
theorem append_own {old : Old} {h : AHeap} {e k bytes n m : Nat} {v x : Value} {c new : List Value} (w : Own h e k v n c) (hk : 0 < k) (hl : srcLen x = some m)
    (hs : m ≠ 0 → srcCells old h k m x = some new) (h0 : m = 0 → new = []) (hnl : new.length = m * k) (ho : new.all okCell = true) (hz : (n + m) * bytes ≤ sizeLim) (hlo : h.lo ≤ h.bs.length) :
    ∃ v' h', appendV old h e k bytes v x = some (v', h') ∧ Own h' e k v' (n + m) (c ++ new) ∧ Fr h h' (fun j => blkOf v = some j) ∧ (blkOf v' = blkOf v ∨ blkOf v' = some h.bs.length) := by
  unfold appendV
  rw [hl]
  simp only
  by_cases hm : m = 0
  · subst hm
    rw [h0 rfl]
    simp only [if_true, Nat.add_zero, List.append_nil]
    rcases w with ⟨rfl | rfl, rfl, rfl⟩ | ⟨b, g, last, rfl, h1, h2, h3, h4, h5⟩
    · exact ⟨_, _, rfl, .nil, .refl _ _, .inl rfl⟩
    · exact ⟨_, _, rfl, .empty, .refl _ _, .inl rfl⟩
    · refine ⟨_, _, if_pos isRest_own, .inr ⟨b, g, last, rfl, h1, h2, h3, h4, h5⟩, .refl _ _, .inl rfl⟩
  · rw [if_neg hm, hs hm]
    simp only
    have hmk : 0 < m * k := Nat.mul_pos (by omega) hk
    rcases w with ⟨rfl | rfl, rfl, rfl⟩ | ⟨b, g, last, rfl, h1, h2, h3, h4, h5⟩
    · simp only [appendNew]
      rw [Nat.zero_add] at hz
      rw [if_pos ⟨hz, ho, hnl, hk⟩]
      exact ⟨_, _, rfl, .inr ⟨h.bs.length, new, 0, by rw [hnl, Nat.zero_add], push_self, by omega, by rw [hnl]; simp, by rw [List.take_of_length_le (by simp [hnl])]; simp, hlo⟩, Fr.push, .inr rfl⟩
    · rw [Nat.zero_add] at hz
      have e0 : isRest ⟨0, 0, some 0⟩ 0 = false := rfl
      simp only [emptySl, e0, Bool.false_eq_true, if_false, if_true, Nat.zero_add]
      rw [if_neg (by omega)]
      simp only [appendNew, List.nil_append]
      rw [if_pos ⟨hz, ho, hnl, hk⟩]
      exact ⟨_, _, rfl, .inr ⟨h.bs.length, new, 0, by rw [hnl], push_self, by omega, by rw [hnl]; simp, by rw [List.take_of_length_le (by simp [hnl])], hlo⟩, Fr.push, .inr rfl⟩
    · simp only [isRest_own, if_true, Nat.not_lt.2 h5, if_false]
      have h1' : h.bs[b]? = some (.grow g last (e + 1) k) := h1
      rw [h1']
      simp only
      rw [if_pos ⟨by first | rfl | trivial, by first | rfl | trivial, by first | rfl | trivial, hk, hz, ho, hnl⟩]
      have hnm : (n + m) * k = n * k + m * k := Nat.add_mul _ _ _
      have hb := get_lt h1
      by_cases hfit : 0 + (n + m) * k ≤ g.length
      · rw [if_pos hfit]
        have hsl : (splice g (0 + n * k) new).length = g.length := by simp [splice, hnl]; omega
        refine ⟨_, _, rfl, .inr ⟨b, splice g (0 + n * k) new, g.length, by rw [hsl], put_self hb, by rw [hsl]; omega, by rw [hsl]; omega, ?_, h5⟩, Fr.put rfl, .inl rfl⟩
        simp only [splice, Nat.zero_add]
        rw [hnm, ← h4, List.append_assoc, List.take_append, List.take_of_length_le (by simp; omega), List.length_take, Nat.min_eq_left h3, Nat.add_sub_cancel_left, ← hnl, List.take_append_of_le_length (by omega), List.take_length]
      · rw [if_neg hfit, if_pos ⟨trivial, h3⟩]
        have hsl : (g.take (n * k) ++ new).length = (n + m) * k := by simp [hnl]; omega
        refine ⟨_, _, rfl, .inr ⟨b, g.take (n * k) ++ new, _, by rw [hsl], put_self hb, ?_, by rw [hsl]; omega, ?_, h5⟩, Fr.put rfl, .inl rfl⟩
        · rw [hsl]; split <;> omega
        · rw [← hsl, List.take_length, h4]

theorem list_empty {l : List UInt8} {m : Nat} (h : l.length = m) (h0 : m = 0) : bytesVals l = [] := by
  have : l = [] := List.eq_nil_of_length_eq_zero (by omega)
  rw [this]; rfl
/-- the slice v reads as the cells c -/
def SlR (old : Old) (h : AHeap) (k : Nat) : Value → List Value → Prop
  | .slice none n cp, c => n = 0 ∧ cp = 0 ∧ c = []
  | .slice (some a) n cp, c => c.length = n * k ∧ (if isRest a cp then (∃ g last fz, h.at a.block = some (.grow g last fz k)) ∧ readN old h a (n * k) = some c ∧ 0 < k else n ≤ cp ∧ (n ≠ 0 → readN old h a (n * k) = some c))
  | _, _ => False
/-- on which block it leans -/
def Live : Value → Nat → Prop
  | .slice (some a) n cp, j => a.spot ≠ none ∧ a.block = j ∧ (n ≠ 0 ∨ isRest a cp = true)
  | _, _ => False
section
variable {old : Old} {h h' : AHeap} {k n cp : Nat} {v : Value} {a : Option Addr} {c : List Value} {S : Nat → Prop}
theorem SlR.len (w : SlR old h k (.slice a n cp) c) : c.length = n * k := by
  cases a with
  | none => obtain ⟨h1, _, h2⟩ := w; simp [h1, h2]
  | some a => exact w.1
theorem SlR.fr (w : SlR old h k v c) (f : Fr h h' S) (hn : ∀ j, Live v j → ¬ S j) : SlR old h' k v c := by
  cases v with
  | slice a n cp =>
    cases a with
    | none => exact w
    | some a =>
      obtain ⟨h1, h2⟩ := w
      refine ⟨h1, ?_⟩
      by_cases hr : isRest a cp = true
      · rw [if_pos hr] at h2 ⊢
        obtain ⟨⟨g, last, fz, h3⟩, h4, h5⟩ := h2
        have hsp : a.spot ≠ none := by intro hc; unfold isRest at hr; rw [hc] at hr; simp at hr
        have hs := hn a.block ⟨hsp, rfl, .inr hr⟩
        exact ⟨⟨g, last, fz, f.get h3 hs⟩, by rw [readN_same (.inr (f.at (get_lt h3) hs))]; exact h4, h5⟩
      · rw [if_neg hr] at h2 ⊢
        refine ⟨h2.1, fun hn0 => ?_⟩
        have h3 := h2.2 hn0
        by_cases hsp : a.spot = none
        · rw [readN_same (.inl hsp)]; exact h3
        · have hs := hn a.block ⟨hsp, rfl, .inl hn0⟩
          have hlt : a.block < h.bs.length := by
            obtain ⟨b, o, s⟩ := a
            cases s with
            | none => exact absurd rfl hsp
            | some t =>
              rw [readN_rd] at h3
              cases hb : h.at b with
              | none => rw [hb] at h3; cases h3
              | some x => exact get_lt hb
          rw [readN_same (.inr (f.at hlt hs))]; exact h3
  | _ => exact w
theorem read_lt {a : Addr} {n : Nat} (e : readN old h a n = some c) (hsp : a.spot ≠ none) : a.block < h.bs.length := by
  obtain ⟨b, o, s⟩ := a
  cases s with
  | none => exact absurd rfl hsp
  | some t =>
    rw [readN_rd] at e
    cases hb : h.at b with
    | none => rw [hb] at e; cases e
    | some x => exact get_lt hb
theorem SlR.live_lt {j : Nat} (w : SlR old h k v c) (hj : Live v j) : j < h.bs.length := by
  cases v with
  | slice a n cp =>
    cases a with
    | none => exact hj.elim
    | some a =>
      obtain ⟨h1, h2⟩ := w
      obtain ⟨g1, rfl, g2⟩ := hj
      by_cases hr : isRest a cp = true
      · rw [if_pos hr] at h2
        obtain ⟨⟨g, last, fz, h3⟩, _⟩ := h2
        exact get_lt h3
      · rw [if_neg hr] at h2
        exact read_lt (h2.2 (g2.resolve_right hr)) g1
  | _ => exact hj.elim
theorem SlR.lo {x : Nat} (w : SlR old h k v c) : SlR old { h with lo := x } k v c := by
  cases v <;> exact w
theorem at_lo {x i : Nat} : AHeap.at { h with lo := x } i = h.at i := nr rfl
theorem Own.sl {e : Nat} (w : Own h e k v n c) (hk : 0 < k) : SlR old h k v c := by
  rcases w with ⟨rfl | rfl, rfl, rfl⟩ | ⟨b, g, last, rfl, h1, h2, h3, h4, h5⟩
  · exact ⟨rfl, rfl, rfl⟩
  · exact ⟨by simp, by rw [if_neg (by simp [isRest])]; exact ⟨by omega, fun h => absurd rfl h⟩⟩
  · refine ⟨by rw [← h4]; simp; omega, ?_⟩
    rw [if_pos isRest_own]
    exact ⟨⟨g, last, e + 1, h1⟩, by rw [readN_rd, h1, rdN_grow (by omega) (by omega) (by omega)]; simp [h4], hk⟩
theorem Own.live {e j : Nat} (w : Own h e k v n c) (hj : Live v j) : blkOf v = some j := by
  rcases w with ⟨rfl | rfl, rfl, rfl⟩ | ⟨b, g, last, rfl, h1, h2, h3, h4, h5⟩
  · exact hj.elim
  · have := hj.2.2; simp [isRest] at this
  · exact congrArg some hj.2.1
/-- [:0] of a row that is owned -/
theorem Own.cut {e : Nat} (w : Own h e k v n c) (hk : 0 < k) : ∃ v', sliceV h k v none (some 0) none = some v' ∧ Own h e k v' 0 [] ∧ blkOf v' = blkOf v := by
  rcases w with ⟨rfl | rfl, rfl, rfl⟩ | ⟨b, g, last, rfl, h1, h2, h3, h4, h5⟩
  · exact ⟨_, rfl, .nil, rfl⟩
  · exact ⟨_, rfl, .empty, rfl⟩
  · refine ⟨.slice (some ⟨b, 0, some (g.length + 1)⟩) 0 0, ?_, .inr ⟨b, g, last, rfl, h1, h2, by omega, by simp, h5⟩, rfl⟩
    have hkof : kOf h b = k := by unfold kOf; rw [← at_eq, h1]
    unfold sliceV
    simp only [Option.getD_none, Option.getD_some]
    rw [if_pos isRest_own, if_pos ⟨by omega, by omega, by simp [tagOf], hkof, hk⟩]
    simp
theorem SlR.read {a' : Addr} (w : SlR old h k (.slice (some a') n cp) c) (hn : n ≠ 0) : readN old h a' (n * k) = some c := by
  obtain ⟨h1, h2⟩ := w
  split at h2
  · exact h2.2.1
  · exact h2.2 hn
theorem SlR.ex (w : SlR old h k (.slice a n cp) c) (hn : n ≠ 0) : ∃ a', a = some a' := by
  cases a with
  | none => exact absurd w.1 hn
  | some a => exact ⟨a, rfl⟩
theorem SlR.src (w : SlR old h k (.slice a n cp) c) (hn : n ≠ 0) : srcCells old h k n (.slice a n cp) = some c := by
  obtain ⟨a', rfl⟩ := w.ex hn
  exact w.read hn
/-- a part of a slice -/
theorem SlR.part (w : SlR old h k (.slice a n cp) c) {lo hi : Option Int} {l u : Nat} (hl : lo.getD 0 = l) (hu : hi.getD n = u) (h1 : l ≤ u) (h2 : u ≤ n) :
    ∃ a' cp', sliceV h k (.slice a n cp) lo hi none = some (.slice a' (u - l) cp') ∧ SlR old h k (.slice a' (u - l) cp') ((c.drop (l * k)).take ((u - l) * k)) ∧ (∀ j, Live (.slice a' (u - l) cp') j → Live (.slice a n cp) j) := by
  cases a with
  | none =>
    obtain ⟨rfl, rfl, rfl⟩ := w
    obtain rfl : u = 0 := by omega
    obtain rfl : l = 0 := by omega
    refine ⟨none, 0, ?_, ⟨rfl, rfl, by simp⟩, fun j hj => hj.elim⟩
    unfold sliceV
    simp only [hl]
    have : hi.getD 0 = 0 := hu
    simp [this]
  | some a =>
    have hmul : (u - l) * k + l * k = u * k := by rw [← Nat.add_mul]; congr 1; omega
    have hmul2 : u * k ≤ n * k := Nat.mul_le_mul_right _ h2
    have hcl := w.len
    have hlen : ((c.drop (l * k)).take ((u - l) * k)).length = (u - l) * k := by simp; omega
    obtain ⟨g1, g2⟩ := w
    by_cases hr : isRest a cp = true
    · rw [if_pos hr] at g2
      obtain ⟨⟨g, last, fz, h3⟩, h4, h5⟩ := g2
      obtain ⟨b, o, s⟩ := a
      cases s with
      | none => simp [isRest] at hr
      | some t =>
        cases t with
        | zero => simp [isRest] at hr
        | succ t =>
          obtain rfl : cp = 0 := by simpa [isRest] using hr
          have h4' := h4
          have h3 : h.at b = some (.grow g last fz k) := h3
          rw [readN_rd, h3] at h4
          simp only [rdN] at h4
          split at h4
          · rename_i hc
            have hkof : kOf h b = k := by unfold kOf; rw [← at_eq, h3]
            refine ⟨some (adda ⟨b, o, some (t + 1)⟩ (l * k)), 0, ?_, ⟨hlen, ?_⟩, fun j hj => ⟨by simp, hj.2.1, .inr rfl⟩⟩
            · unfold sliceV
              simp only [hl, hu]
              rw [if_pos hr, if_pos ⟨by omega, by omega, by simp [tagOf]; omega, hkof, h5⟩]
              simp only [Int.toNat_natCast]
              congr 2; omega
            · rw [if_pos (show isRest (adda ⟨b, o, some (t + 1)⟩ (l * k)) 0 = true from rfl)]
              exact ⟨⟨g, last, fz, h3⟩, readN_part h4' (by omega), h5⟩
          · cases h4
    · rw [if_neg hr] at g2
      have hm : (none : Option Int).getD (cp : Int) = cp := rfl
      by_cases hcl : cp = l
      · obtain rfl : u = l := by omega
        by_cases hsp : a.spot = none
        · refine ⟨some a, 0, ?_, ⟨by simp, ?_⟩, fun j hj => absurd hsp hj.1⟩
          · unfold sliceV
            simp only [hl, hu, hm]
            rw [if_neg hr, if_pos ⟨by omega, by omega, by omega, by omega⟩, if_pos (by omega), if_pos hsp]
            simp
          · have : isRest a 0 = false := by unfold isRest; rw [hsp]
            rw [if_neg (by simp [this])]
            exact ⟨by omega, fun hc => absurd (Nat.sub_self _) hc⟩
        · refine ⟨some ⟨0, 0, some 0⟩, 0, ?_, ⟨by simp, ?_⟩, fun j hj => ?_⟩
          · unfold sliceV
            simp only [hl, hu, hm]
            rw [if_neg hr, if_pos ⟨by omega, by omega, by omega, by omega⟩, if_pos (by omega), if_neg hsp]
            simp [emptySl]
          · rw [if_neg (by simp [isRest])]
            exact ⟨by omega, fun hc => absurd (Nat.sub_self _) hc⟩
          · have := hj.2.2
            simp [isRest] at this
      · refine ⟨some (adda a (l * k)), cp - l, ?_, ⟨hlen, ?_⟩, fun j hj => ?_⟩
        · unfold sliceV
          simp only [hl, hu, hm]
          rw [if_neg hr, if_pos ⟨by omega, by omega, by omega, by omega⟩, if_neg (by omega)]
          simp only [Int.toNat_natCast]
          congr 2 <;> omega
        · have : isRest (adda a (l * k)) (cp - l) = false := by
            unfold isRest at hr ⊢
            simp only [adda_spot]
            split <;> simp_all
            omega
          rw [if_neg (by simp [this])]
          refine ⟨by omega, fun hc => ?_⟩
          exact readN_part (g2.2 (by omega)) (by omega)
        · have : isRest (adda a (l * k)) (cp - l) = false := by
            unfold isRest at hr ⊢
            simp only [adda_spot]
            split <;> simp_all
            omega
          refine ⟨hj.1, hj.2.1, .inl ?_⟩
          rcases hj.2.2 with h3 | h3
          · omega
          · rw [this] at h3; cases h3
end
end Go.Ab

/- Drawn regions whose readers are looked at again: run in order, with what is to be looked at kept. -/
namespace Go.Ab
/-- a reader that is to be looked at again -/
structure Pend where
  t : List Value
  op : AOp
  v : Value
  un : List Nat
noncomputable def pend1 (C : Ctx) (x : Pend) (h : AHeap) : Bool := match exec1 C (noRd (R C)) x.t h x.op with
  | some (v, _) => vb v x.v
  | none => false
def pendAt (hs : List AHeap) (h : AHeap) (j : Nat) : AHeap := match hs[j]? with
  | some y => y
  | none => h
noncomputable def pends (C : Ctx) (P : List Pend) (hs : List AHeap) (h : AHeap) : Bool := P.all fun x => x.un.all fun j => pend1 C x (pendAt hs h j)
def addP (P : List Pend) (t : List Value) (op : AOp) (v : Value) : List Nat → List Pend
  | [] => P
  | u => P ++ [⟨t, op, v, u⟩]
noncomputable def dend (C : Ctx) (rs : List ARes) (b : Bool) (k : List AItem) (t : List Value) (ds : List ADefer) (h : AHeap) : Res := if b then R C rs k t ds h else none
noncomputable def drun (C : Ctx) (rs : List ARes) (hs : List AHeap) (P : List Pend) : List AOper → List AItem → List Value → List ADefer → AHeap → Res
  | [], k, t, ds, h => dend C rs (pends C P hs h) k t ds h
  | o :: os, k, t, ds, h =>
    if wantedA t o.guard then
      match resOk (pdst o) (exec1 C (noRd (R C)) t h o.op) with
      | some (v, h') => drun C rs (hs ++ [h]) (addP P t o.op v o.un) os k (putD t o.dst v) ds h'
      | none => none
    else drun C rs (hs ++ [h]) P os k (putD t o.dst (.tuple #[])) ds h
/-- behind an operation of a drawn region -/
noncomputable def dstp (C : Ctx) (rs : List ARes) (x : Res) (d : Option Nat) (u : List Nat) (op : AOp) (hs : List AHeap) (P : List Pend) (os : List AOper) (k : List AItem) (t : List Value) (ds : List ADefer) (h : AHeap) : Res := match x with
  | some (v, h') => if d.isSome && isUnd v then none else drun C rs (hs ++ [h]) (addP P t op v u) os k (putD t d v) ds h'
  | none => none
noncomputable def dcal (C : Ctx) (rs : List ARes) (x : Res) (d : Option Nat) (u : List Nat) (op : AOp) (hs : List AHeap) (P : List Pend) (os : List AOper) (k : List AItem) (t : List Value) (ds : List ADefer) (h : AHeap) : Res := match x with
  | some (v, h') => drun C rs (hs ++ [h]) (addP P t op v u) os k (putD t d v) ds h'
  | none => none
noncomputable def dgrd (C : Ctx) (rs : List ARes) (v : Value) (w : Bool) (d : Option Nat) (op : AOp) (u : List Nat) (hs : List AHeap) (P : List Pend) (os : List AOper) (k : List AItem) (t : List Value) (ds : List ADefer) (h : AHeap) : Res := match v with
  | .bool b => if b == w then drun C rs hs P (⟨d, none, op, u⟩ :: os) k t ds h else drun C rs (hs ++ [h]) P os k (putD t d (.tuple #[])) ds h
  | _ => drun C rs (hs ++ [h]) P os k (putD t d (.tuple #[])) ds h
def noDefers : List AOper → Bool
  | [] => true
  | o :: os => noDefer o.op && noDefers os
section
variable {C : Ctx} {rs : List ARes} {k : List AItem} {t : List Value} {ds : List ADefer} {h : AHeap} {os : List AOper} {u : List Nat} {hs : List AHeap} {P : List Pend} {dst : Option Nat} {op : AOp}
theorem D_nil : drun C rs hs P [] k t ds h = dend C rs (pends C P hs h) k t ds h := nr rfl
theorem D_plain (hk : opK op = .plain) : drun C rs hs P (⟨dst, none, op, u⟩ :: os) k t ds h = dstp C rs (aexec C t h op) dst u op hs P os k t ds h := by
  simp only [drun, wantedA, if_true, exec1, hk, dstp]
  cases aexec C t h op with
  | none => rfl
  | some p =>
    obtain ⟨v, h'⟩ := p
    simp only [resOk, pdst, hk]
    cases dst.isSome && isUnd v <;> rfl
theorem D_call {f : FuncId} {args : List AArg} (hf : f < 4294967296) : drun C rs hs P (⟨dst, none, .call f args, u⟩ :: os) k t ds h = dcal C rs (Dc C f (args.map (·.ev t)) h) dst u (.call f args) hs P os k t ds h := by
  simp only [drun, wantedA, if_true, opK, exec1, target, okArgs, Dc, D, dcal]
  cases hu : (args.map (·.ev t)).any isUnd with
  | true => simp only [if_true]; rfl
  | false =>
    simp only [Bool.false_eq_true, if_false]
    rw [doCall_noRd (fun e => by rw [e] at hf; exact absurd hf (by decide))]
    cases doCall C (R C) f (args.map (·.ev t)) h with
    | none => rfl
    | some p => obtain ⟨v, h'⟩ := p; simp [resOk, pdst, opK]
/-- a call by a function's value, which is no loop's yield -/
noncomputable def Dvn (C : Ctx) (f : Value) (l : List Value) (h : AHeap) : Res := match f with
  | .func (.func f) first cap => if f = fYield then none else Dc C f (first.toList ++ l ++ cap.toList) h
  | _ => none
theorem doCall_noRdY {C : Ctx} {go : K} {args : List Value} {h : AHeap} (hT : C.T fYield = none) : doCall C (noRd go) fYield args h = none := by
  unfold doCall
  rw [hT]
  simp only [if_true]
  unfold doRound
  split
  · split
    · rfl
    · simp only [noRd, inRoundA, if_true]
  · rfl
theorem D_callv {x : AArg} {args : List AArg} (hY : C.T fYield = none) : drun C rs hs P (⟨dst, none, .callv x args, u⟩ :: os) k t ds h = dcal C rs (Dvn C (x.ev t) (args.map (·.ev t)) h) dst u (.callv x args) hs P os k t ds h := by
  simp only [drun, wantedA, if_true, opK, exec1, target, okArgs, dcal]
  cases hx : x.ev t with
  | func f first cap =>
    cases f with
    | func f =>
      simp only [Dvn, Dc, D]
      cases hu : (first.toList ++ args.map (·.ev t) ++ cap.toList).any isUnd with
      | true => simp [resOk]
      | false =>
        simp only [Bool.false_eq_true, if_false]
        by_cases hf : f = fYield
        · subst hf
          rw [doCall_noRdY hY, if_pos rfl]
          rfl
        · rw [doCall_noRd hf, if_neg hf]
          cases doCall C (R C) f (first.toList ++ args.map (·.ev t) ++ cap.toList) h with
          | none => rfl
          | some p => obtain ⟨v, h'⟩ := p; simp [resOk, pdst, opK]
    | _ => simp [Dvn, resOk]
  | _ => simp [Dvn, resOk]
theorem D_guard {g : Nat} {w : Bool} : drun C rs hs P (⟨dst, some (g, w), op, u⟩ :: os) k t ds h = dgrd C rs (tg t g) w dst op u hs P os k t ds h := by
  have hp : pdst ⟨dst, some (g, w), op, u⟩ = pdst ⟨dst, none, op, u⟩ := by simp only [pdst]
  cases hv : tg t g with
  | bool b =>
    by_cases hb : b = w
    · subst hb
      simp only [drun, wantedA, hv, beq_self_eq_true, if_true, dgrd, hp]
    · have : (b == w) = false := by simpa using hb
      simp only [drun, wantedA, hv, this, Bool.false_eq_true, if_false, dgrd]
  | _ => simp [drun, wantedA, hv, dgrd]
variable {v : Value} {d : Nat}
theorem dstp_ok {h' : AHeap} (hu : isUnd v = false) : dstp C rs (some (v, h')) (some d) u op hs P os k t ds h = drun C rs (hs ++ [h]) (addP P t op v u) os k (ts t d v) ds h' := by simp [dstp, hu, putD]
theorem dstp_no {h' : AHeap} : dstp C rs (some (v, h')) none u op hs P os k t ds h = drun C rs (hs ++ [h]) (addP P t op v u) os k t ds h' := by simp [dstp, putD]
theorem dcal_some {h' : AHeap} : dcal C rs (some (v, h')) dst u op hs P os k t ds h = drun C rs (hs ++ [h]) (addP P t op v u) os k (putD t dst v) ds h' := nr rfl
theorem dgrd_yes {w : Bool} : dgrd C rs (.bool w) w dst op u hs P os k t ds h = drun C rs hs P (⟨dst, none, op, u⟩ :: os) k t ds h := by simp [dgrd]
theorem dgrd_tf : dgrd C rs (.bool true) false dst op u hs P os k t ds h = drun C rs (hs ++ [h]) P os k (putD t dst (.tuple #[])) ds h := nr rfl
theorem dgrd_ft : dgrd C rs (.bool false) true dst op u hs P os k t ds h = drun C rs (hs ++ [h]) P os k (putD t dst (.tuple #[])) ds h := nr rfl
theorem dend_true : dend C rs true k t ds h = R C rs k t ds h := nr rfl
theorem addP_nil : addP P t op v [] = P := nr rfl
theorem addP_cons {a : Nat} {l : List Nat} : addP P t op v (a :: l) = P ++ [⟨t, op, v, a :: l⟩] := nr rfl
theorem pends_nil : pends C [] hs h = true := nr rfl
theorem pends_cons {x : Pend} : pends C (x :: P) hs h = ((x.un.all fun j => pend1 C x (pendAt hs h j)) && pends C P hs h) := nr rfl
theorem pend1_plain {un : List Nat} (hk : opK op = .plain) : pend1 C ⟨t, op, v, un⟩ h = match aexec C t h op with
  | some (v', _) => vb v' v
  | none => false := by
  simp only [pend1, exec1, hk]
  cases aexec C t h op <;> rfl
theorem pendAt_0 {a : AHeap} {l : List AHeap} : pendAt (a :: l) h 0 = a := nr rfl
theorem pendAt_s {a : AHeap} {l : List AHeap} {n : Nat} : pendAt (a :: l) h (n + 1) = pendAt l h n := nr rfl
theorem pendAt_nil {n : Nat} : pendAt [] h n = h := nr rfl
end
section
variable {C : Ctx} {rs : List ARes} {k : List AItem} {t : List Value} {ds : List ADefer} {h : AHeap} {os : List AOper} {u : List Nat} {hs : List AHeap} {P : List Pend} {dst : Option Nat} {v : Value}
theorem D_pick {x y z : AArg} : drun C rs hs P (⟨dst, none, .pick x y z, u⟩ :: os) k t ds h = dstp C rs (aexec C t h (.pick x y z)) dst u (.pick x y z) hs P os k t ds h := D_plain rfl
theorem D_box {e : TypeId} {x : AArg} : drun C rs hs P (⟨dst, none, .box e x, u⟩ :: os) k t ds h = dstp C rs (aexec C t h (.box e x)) dst u (.box e x) hs P os k t ds h := D_plain rfl
theorem D_build {z : List Value} {ps : List (Nat × Nat × AArg)} : drun C rs hs P (⟨dst, none, .build z ps, u⟩ :: os) k t ds h = dstp C rs (aexec C t h (.build z ps)) dst u (.build z ps) hs P os k t ds h := D_plain rfl
theorem D_buildSlice {e : TypeId} {z : List Value} {n : Nat} {ps : List (Nat × Nat × AArg)} : drun C rs hs P (⟨dst, none, .buildSlice e z n ps, u⟩ :: os) k t ds h = dstp C rs (aexec C t h (.buildSlice e z n ps)) dst u (.buildSlice e z n ps) hs P os k t ds h := D_plain rfl
theorem D_load1 {x : AArg} : drun C rs hs P (⟨dst, none, .load1 x, u⟩ :: os) k t ds h = dstp C rs (aexec C t h (.load1 x)) dst u (.load1 x) hs P os k t ds h := D_plain rfl
theorem P_load1 {x : AArg} {un : List Nat} : pend1 C ⟨t, .load1 x, v, un⟩ h = match aexec C t h (.load1 x) with
  | some (v', _) => vb v' v
  | none => false := rfl
theorem D_loadN {n : Nat} {x : AArg} : drun C rs hs P (⟨dst, none, .loadN n x, u⟩ :: os) k t ds h = dstp C rs (aexec C t h (.loadN n x)) dst u (.loadN n x) hs P os k t ds h := D_plain rfl
theorem P_loadN {n : Nat} {x : AArg} {un : List Nat} : pend1 C ⟨t, .loadN n x, v, un⟩ h = match aexec C t h (.loadN n x) with
  | some (v', _) => vb v' v
  | none => false := rfl
theorem D_nilCheck {x : AArg} : drun C rs hs P (⟨dst, none, .nilCheck x, u⟩ :: os) k t ds h = dstp C rs (aexec C t h (.nilCheck x)) dst u (.nilCheck x) hs P os k t ds h := D_plain rfl
theorem D_convStr {x : AArg} : drun C rs hs P (⟨dst, none, .convStr x, u⟩ :: os) k t ds h = dstp C rs (aexec C t h (.convStr x)) dst u (.convStr x) hs P os k t ds h := D_plain rfl
theorem D_str2bytes {e : TypeId} {x : AArg} : drun C rs hs P (⟨dst, none, .str2bytes e x, u⟩ :: os) k t ds h = dstp C rs (aexec C t h (.str2bytes e x)) dst u (.str2bytes e x) hs P os k t ds h := D_plain rfl
theorem D_bytes2str {x : AArg} : drun C rs hs P (⟨dst, none, .bytes2str x, u⟩ :: os) k t ds h = dstp C rs (aexec C t h (.bytes2str x)) dst u (.bytes2str x) hs P os k t ds h := D_plain rfl
theorem P_bytes2str {x : AArg} {un : List Nat} : pend1 C ⟨t, .bytes2str x, v, un⟩ h = match aexec C t h (.bytes2str x) with
  | some (v', _) => vb v' v
  | none => false := rfl
theorem D_rune2str {x : AArg} : drun C rs hs P (⟨dst, none, .rune2str x, u⟩ :: os) k t ds h = dstp C rs (aexec C t h (.rune2str x)) dst u (.rune2str x) hs P os k t ds h := D_plain rfl
theorem D_mkIface {e : TypeId} {x : AArg} : drun C rs hs P (⟨dst, none, .mkIface e x, u⟩ :: os) k t ds h = dstp C rs (aexec C t h (.mkIface e x)) dst u (.mkIface e x) hs P os k t ds h := D_plain rfl
theorem D_mkFunc {f : FuncId} {l l' : List AArg} : drun C rs hs P (⟨dst, none, .mkFunc f l l', u⟩ :: os) k t ds h = dstp C rs (aexec C t h (.mkFunc f l l')) dst u (.mkFunc f l l') hs P os k t ds h := D_plain rfl
theorem D_mkMap  : drun C rs hs P (⟨dst, none, .mkMap, u⟩ :: os) k t ds h = dstp C rs (aexec C t h (.mkMap)) dst u (.mkMap) hs P os k t ds h := D_plain rfl
theorem D_mkSlice {e : TypeId} {n n' : Nat} {z : List Value} {x y : AArg} : drun C rs hs P (⟨dst, none, .mkSlice e n n' z x y, u⟩ :: os) k t ds h = dstp C rs (aexec C t h (.mkSlice e n n' z x y)) dst u (.mkSlice e n n' z x y) hs P os k t ds h := D_plain rfl
theorem D_sliceStr {x : AArg} {y z : Option AArg} : drun C rs hs P (⟨dst, none, .sliceStr x y z, u⟩ :: os) k t ds h = dstp C rs (aexec C t h (.sliceStr x y z)) dst u (.sliceStr x y z) hs P os k t ds h := D_plain rfl
theorem D_sliceSl {n : Nat} {x : AArg} {y z w : Option AArg} : drun C rs hs P (⟨dst, none, .sliceSl n x y z w, u⟩ :: os) k t ds h = dstp C rs (aexec C t h (.sliceSl n x y z w)) dst u (.sliceSl n x y z w) hs P os k t ds h := D_plain rfl
theorem P_sliceSl {n : Nat} {x : AArg} {y z w : Option AArg} {un : List Nat} : pend1 C ⟨t, .sliceSl n x y z w, v, un⟩ h = match aexec C t h (.sliceSl n x y z w) with
  | some (v', _) => vb v' v
  | none => false := rfl
theorem D_sliceArr {n n' : Nat} {x : AArg} {y z w : Option AArg} : drun C rs hs P (⟨dst, none, .sliceArr n n' x y z w, u⟩ :: os) k t ds h = dstp C rs (aexec C t h (.sliceArr n n' x y z w)) dst u (.sliceArr n n' x y z w) hs P os k t ds h := D_plain rfl
theorem P_sliceArr {n n' : Nat} {x : AArg} {y z w : Option AArg} {un : List Nat} : pend1 C ⟨t, .sliceArr n n' x y z w, v, un⟩ h = match aexec C t h (.sliceArr n n' x y z w) with
  | some (v', _) => vb v' v
  | none => false := rfl
theorem D_fieldAddr {n : Nat} {x : AArg} : drun C rs hs P (⟨dst, none, .fieldAddr n x, u⟩ :: os) k t ds h = dstp C rs (aexec C t h (.fieldAddr n x)) dst u (.fieldAddr n x) hs P os k t ds h := D_plain rfl
theorem D_field1 {n : Nat} {x : AArg} : drun C rs hs P (⟨dst, none, .field1 n x, u⟩ :: os) k t ds h = dstp C rs (aexec C t h (.field1 n x)) dst u (.field1 n x) hs P os k t ds h := D_plain rfl
theorem D_fieldN {n n' : Nat} {x : AArg} : drun C rs hs P (⟨dst, none, .fieldN n n' x, u⟩ :: os) k t ds h = dstp C rs (aexec C t h (.fieldN n n' x)) dst u (.fieldN n n' x) hs P os k t ds h := D_plain rfl
theorem D_idxAddrArr {n n' : Nat} {x y : AArg} : drun C rs hs P (⟨dst, none, .idxAddrArr n n' x y, u⟩ :: os) k t ds h = dstp C rs (aexec C t h (.idxAddrArr n n' x y)) dst u (.idxAddrArr n n' x y) hs P os k t ds h := D_plain rfl
theorem D_idxAddrSl {n : Nat} {x y : AArg} : drun C rs hs P (⟨dst, none, .idxAddrSl n x y, u⟩ :: os) k t ds h = dstp C rs (aexec C t h (.idxAddrSl n x y)) dst u (.idxAddrSl n x y) hs P os k t ds h := D_plain rfl
theorem D_idxStr {x y : AArg} : drun C rs hs P (⟨dst, none, .idxStr x y, u⟩ :: os) k t ds h = dstp C rs (aexec C t h (.idxStr x y)) dst u (.idxStr x y) hs P os k t ds h := D_plain rfl
theorem D_idxArr1 {n : Nat} {x y : AArg} : drun C rs hs P (⟨dst, none, .idxArr1 n x y, u⟩ :: os) k t ds h = dstp C rs (aexec C t h (.idxArr1 n x y)) dst u (.idxArr1 n x y) hs P os k t ds h := D_plain rfl
theorem D_idxArrN {n n' : Nat} {x y : AArg} : drun C rs hs P (⟨dst, none, .idxArrN n n' x y, u⟩ :: os) k t ds h = dstp C rs (aexec C t h (.idxArrN n n' x y)) dst u (.idxArrN n n' x y) hs P os k t ds h := D_plain rfl
theorem D_lookup {c : CK} {z : Value} {b : Bool} {x y : AArg} : drun C rs hs P (⟨dst, none, .lookup c z b x y, u⟩ :: os) k t ds h = dstp C rs (aexec C t h (.lookup c z b x y)) dst u (.lookup c z b x y) hs P os k t ds h := D_plain rfl
theorem P_lookup {c : CK} {z : Value} {b : Bool} {x y : AArg} {un : List Nat} : pend1 C ⟨t, .lookup c z b x y, v, un⟩ h = match aexec C t h (.lookup c z b x y) with
  | some (v', _) => vb v' v
  | none => false := rfl
theorem D_rangeStr {x : AArg} : drun C rs hs P (⟨dst, none, .rangeStr x, u⟩ :: os) k t ds h = dstp C rs (aexec C t h (.rangeStr x)) dst u (.rangeStr x) hs P os k t ds h := D_plain rfl
theorem D_nextStr {x : AArg} : drun C rs hs P (⟨dst, none, .nextStr x, u⟩ :: os) k t ds h = dstp C rs (aexec C t h (.nextStr x)) dst u (.nextStr x) hs P os k t ds h := D_plain rfl
theorem D_tassert {e : TypeId} {z : Value} {b : Bool} {x : AArg} : drun C rs hs P (⟨dst, none, .tassert e z b x, u⟩ :: os) k t ds h = dstp C rs (aexec C t h (.tassert e z b x)) dst u (.tassert e z b x) hs P os k t ds h := D_plain rfl
theorem D_len {x : AArg} : drun C rs hs P (⟨dst, none, .len x, u⟩ :: os) k t ds h = dstp C rs (aexec C t h (.len x)) dst u (.len x) hs P os k t ds h := D_plain rfl
theorem D_lenS {x : AArg} : drun C rs hs P (⟨dst, none, .lenS x, u⟩ :: os) k t ds h = dstp C rs (aexec C t h (.lenS x)) dst u (.lenS x) hs P os k t ds h := D_plain rfl
theorem D_lenArr {n : Nat} : drun C rs hs P (⟨dst, none, .lenArr n, u⟩ :: os) k t ds h = dstp C rs (aexec C t h (.lenArr n)) dst u (.lenArr n) hs P os k t ds h := D_plain rfl
theorem D_lenMap {x : AArg} : drun C rs hs P (⟨dst, none, .lenMap x, u⟩ :: os) k t ds h = dstp C rs (aexec C t h (.lenMap x)) dst u (.lenMap x) hs P os k t ds h := D_plain rfl
theorem P_lenMap {x : AArg} {un : List Nat} : pend1 C ⟨t, .lenMap x, v, un⟩ h = match aexec C t h (.lenMap x) with
  | some (v', _) => vb v' v
  | none => false := rfl
theorem D_cap {x : AArg} : drun C rs hs P (⟨dst, none, .cap x, u⟩ :: os) k t ds h = dstp C rs (aexec C t h (.cap x)) dst u (.cap x) hs P os k t ds h := D_plain rfl
theorem D_append {e : TypeId} {n n' : Nat} {x y : AArg} : drun C rs hs P (⟨dst, none, .append e n n' x y, u⟩ :: os) k t ds h = dstp C rs (aexec C t h (.append e n n' x y)) dst u (.append e n n' x y) hs P os k t ds h := D_plain rfl
theorem D_copy {n : Nat} {x y : AArg} : drun C rs hs P (⟨dst, none, .copy n x y, u⟩ :: os) k t ds h = dstp C rs (aexec C t h (.copy n x y)) dst u (.copy n x y) hs P os k t ds h := D_plain rfl
theorem D_min2 {x y : AArg} : drun C rs hs P (⟨dst, none, .min2 x y, u⟩ :: os) k t ds h = dstp C rs (aexec C t h (.min2 x y)) dst u (.min2 x y) hs P os k t ds h := D_plain rfl
theorem D_min3 {x y z : AArg} : drun C rs hs P (⟨dst, none, .min3 x y z, u⟩ :: os) k t ds h = dstp C rs (aexec C t h (.min3 x y z)) dst u (.min3 x y z) hs P os k t ds h := D_plain rfl
theorem D_max2 {x y : AArg} : drun C rs hs P (⟨dst, none, .max2 x y, u⟩ :: os) k t ds h = dstp C rs (aexec C t h (.max2 x y)) dst u (.max2 x y) hs P os k t ds h := D_plain rfl
theorem D_unsafeSliceData {x : AArg} : drun C rs hs P (⟨dst, none, .unsafeSliceData x, u⟩ :: os) k t ds h = dstp C rs (aexec C t h (.unsafeSliceData x)) dst u (.unsafeSliceData x) hs P os k t ds h := D_plain rfl
theorem D_unsafeStr {e : TypeId} {x y : AArg} : drun C rs hs P (⟨dst, none, .unsafeStr e x y, u⟩ :: os) k t ds h = dstp C rs (aexec C t h (.unsafeStr e x y)) dst u (.unsafeStr e x y) hs P os k t ds h := D_plain rfl
theorem D_toUnsafe {x : AArg} : drun C rs hs P (⟨dst, none, .toUnsafe x, u⟩ :: os) k t ds h = dstp C rs (aexec C t h (.toUnsafe x)) dst u (.toUnsafe x) hs P os k t ds h := D_plain rfl
theorem D_fromUnsafe {e : TypeId} {x : AArg} : drun C rs hs P (⟨dst, none, .fromUnsafe e x, u⟩ :: os) k t ds h = dstp C rs (aexec C t h (.fromUnsafe e x)) dst u (.fromUnsafe e x) hs P os k t ds h := D_plain rfl
theorem D_clearS {z : List Value} {x : AArg} : drun C rs hs P (⟨dst, none, .clearS z x, u⟩ :: os) k t ds h = dstp C rs (aexec C t h (.clearS z x)) dst u (.clearS z x) hs P os k t ds h := D_plain rfl
theorem D_store1 {x y : AArg} : drun C rs hs P (⟨dst, none, .store1 x y, u⟩ :: os) k t ds h = dstp C rs (aexec C t h (.store1 x y)) dst u (.store1 x y) hs P os k t ds h := D_plain rfl
theorem D_storeN {n : Nat} {x y : AArg} : drun C rs hs P (⟨dst, none, .storeN n x y, u⟩ :: os) k t ds h = dstp C rs (aexec C t h (.storeN n x y)) dst u (.storeN n x y) hs P os k t ds h := D_plain rfl
theorem D_mapUpd {c : CK} {x y z : AArg} : drun C rs hs P (⟨dst, none, .mapUpd c x y z, u⟩ :: os) k t ds h = dstp C rs (aexec C t h (.mapUpd c x y z)) dst u (.mapUpd c x y z) hs P os k t ds h := D_plain rfl
theorem D_mapDel {c : CK} {x y : AArg} : drun C rs hs P (⟨dst, none, .mapDel c x y, u⟩ :: os) k t ds h = dstp C rs (aexec C t h (.mapDel c x y)) dst u (.mapDel c x y) hs P os k t ds h := D_plain rfl
theorem D_mapClear {x : AArg} : drun C rs hs P (⟨dst, none, .mapClear x, u⟩ :: os) k t ds h = dstp C rs (aexec C t h (.mapClear x)) dst u (.mapClear x) hs P os k t ds h := D_plain rfl
theorem D_move {x : AArg} : drun C rs hs P (⟨dst, none, .move x, u⟩ :: os) k t ds h = dstp C rs (aexec C t h (.move x)) dst u (.move x) hs P os k t ds h := D_plain rfl
theorem D_bin {op : BinOp} {x y : AArg} : drun C rs hs P (⟨dst, none, .bin op x y, u⟩ :: os) k t ds h = dstp C rs (aexec C t h (.bin op x y)) dst u (.bin op x y) hs P os k t ds h := D_plain rfl
theorem D_un {op : UnOp} {x : AArg} : drun C rs hs P (⟨dst, none, .un op x, u⟩ :: os) k t ds h = dstp C rs (aexec C t h (.un op x)) dst u (.un op x) hs P os k t ds h := D_plain rfl
theorem D_eq {n : Bool} {e : EqK} {x y : AArg} : drun C rs hs P (⟨dst, none, .eq n e x y, u⟩ :: os) k t ds h = dstp C rs (aexec C t h (.eq n e x y)) dst u (.eq n e x y) hs P os k t ds h := D_plain rfl
theorem D_convInt {n : IntKind} {x : AArg} : drun C rs hs P (⟨dst, none, .convInt n x, u⟩ :: os) k t ds h = dstp C rs (aexec C t h (.convInt n x)) dst u (.convInt n x) hs P os k t ds h := D_plain rfl
theorem D_extract {i : Nat} {x : AArg} : drun C rs hs P (⟨dst, none, .extract i x, u⟩ :: os) k t ds h = dstp C rs (aexec C t h (.extract i x)) dst u (.extract i x) hs P os k t ds h := D_plain rfl
end
/-- what a run in order leaves behind -/
theorem drun_spec {C : Ctx} {rs : List ARes} {k : List AItem} {ds : List ADefer} : ∀ {l : List AOper} {tr0 : List Tr} {P : List Pend} {t : List Value} {h : AHeap},
    (∀ hs' h', pends C P (tr0.map (·.h) ++ hs') h' = tr0.all fun x => x.o.un.all fun j => chk C (noRd (R C)) x (pendAt (tr0.map (·.h) ++ hs') h' j)) →
    drun C rs (tr0.map (·.h)) P l k t ds h = match seqRun C (noRd (R C)) l t h with
      | some (tr, t', h') => if drawCheck C (noRd (R C)) (tr0 ++ tr) h' then R C rs k t' ds h' else none
      | none => none
  | [], tr0, P, t, h, hP => by
    simp only [drun, seqRun, dend, List.append_nil]
    have := hP [] h
    rw [List.append_nil] at this
    rw [this]
    congr 1
    unfold drawCheck
    have : ∀ j, pendAt (tr0.map (·.h)) h j = stage tr0 h j := by
      intro j
      unfold pendAt stage
      rw [List.getElem?_map]
      cases tr0[j]? <;> rfl
    simp only [this]
  | o :: os, tr0, P, t, h, hP => by
    simp only [drun, seqRun]
    have key : ∀ (v : Value) (h1 : AHeap) (P' : List Pend), (∀ hs' h', pends C P' (tr0.map (·.h) ++ hs') h' = (pends C P (tr0.map (·.h) ++ hs') h' && o.un.all fun j => chk C (noRd (R C)) ⟨o, t, h, v, h1⟩ (pendAt (tr0.map (·.h) ++ hs') h' j))) →
        drun C rs (tr0.map (·.h) ++ [h]) P' os k (putD t o.dst v) ds h1 = match seqRun C (noRd (R C)) os (putD t o.dst v) h1 with
          | some (tr, t', h') => if drawCheck C (noRd (R C)) (tr0 ++ (⟨o, t, h, v, h1⟩ :: tr)) h' then R C rs k t' ds h' else none
          | none => none := by
      intro v h1 P' hP'
      have := drun_spec (C := C) (rs := rs) (k := k) (ds := ds) (l := os) (tr0 := tr0 ++ [⟨o, t, h, v, h1⟩]) (P := P') (t := putD t o.dst v) (h := h1) (fun hs' h' => by
        simp only [List.map_append, List.map_cons, List.map_nil, List.append_assoc, List.all_append, List.all_cons, List.all_nil, Bool.and_true]
        rw [hP' ([h] ++ hs') h', hP ([h] ++ hs') h'])
      simp only [List.map_append, List.map_cons, List.map_nil] at this
      rw [this]
      simp only [List.append_assoc, List.cons_append, List.nil_append]
    by_cases hw : wantedA t o.guard = true
    · simp only [hw, if_true]
      cases hx : resOk (pdst o) (exec1 C (noRd (R C)) t h o.op) with
      | none => rfl
      | some p =>
        obtain ⟨v, h1⟩ := p
        simp only
        rw [key v h1 _ (fun hs' h' => ?_)]
        · cases seqRun C (noRd (R C)) os (putD t o.dst v) h1 <;> rfl
        · cases hu : o.un with
          | nil => simp [addP]
          | cons a l =>
            simp only [addP, pends, List.all_append, List.all_cons, List.all_nil, Bool.and_true, chk, hw, if_true, pend1]
            rfl
    · have hw' : wantedA t o.guard = false := by simpa using hw
      simp only [hw', Bool.false_eq_true, if_false]
      rw [key _ h P (fun hs' h' => ?_)]
      · cases seqRun C (noRd (R C)) os (putD t o.dst (.tuple #[])) h <;> rfl
      · simp [chk, hw']
theorem S_drawc {C : Ctx} {rs : List ARes} {k : List AItem} {t : List Value} {ds : List ADefer} {h : AHeap} {l : List AOper} : R C rs (.code (.draw l) :: k) t ds h = drun C rs [] [] l k t ds h := by
  rw [R_draw]
  have := drun_spec (C := C) (rs := rs) (k := k) (ds := ds) (l := l) (tr0 := []) (P := []) (t := t) (h := h) (fun _ _ => rfl)
  simp only [List.map_nil, List.nil_append] at this
  rw [this]
  unfold drawRun
  cases seqRun C (noRd (R C)) l t h with
  | none => rfl
  | some p =>
    obtain ⟨tr, t', h'⟩ := p
    simp only
    by_cases hd : drawCheck C (noRd (R C)) tr h' = true
    · rw [if_pos hd, if_pos hd]
    · rw [if_neg hd, if_neg hd]
/-- a drawn region: in order, and with a second look where one is due -/
theorem S_drawX {C : Ctx} {rs : List ARes} {k : List AItem} {t : List Value} {ds : List ADefer} {h : AHeap} {l : List AOper} (hp : plainDraw l = false) : R C rs (.code (.draw l) :: k) t ds h = drun C rs [] [] l k t ds h := by
  have _ := hp
  exact S_drawc
attribute [simp] S_drawX D_nil D_call D_guard dstp_ok dstp_no dcal_some dgrd_yes dgrd_tf dgrd_ft dend_true addP_nil addP_cons pends_nil pends_cons pendAt_0 pendAt_s pendAt_nil vb_self D_pick D_box D_build D_buildSlice D_load1 P_load1 D_loadN P_loadN D_nilCheck D_convStr D_str2bytes D_bytes2str P_bytes2str D_rune2str D_mkIface D_mkFunc D_mkMap D_mkSlice D_sliceStr D_sliceSl P_sliceSl D_sliceArr P_sliceArr D_fieldAddr D_field1 D_fieldN D_idxAddrArr D_idxAddrSl D_idxStr D_idxArr1 D_idxArrN D_lookup P_lookup D_rangeStr D_nextStr D_tassert D_len D_lenS D_lenArr D_lenMap P_lenMap D_cap D_append D_copy D_min2 D_max2 D_min3 D_unsafeSliceData D_unsafeStr D_toUnsafe D_fromUnsafe D_clearS D_store1 D_storeN D_mapUpd D_mapDel D_mapClear D_move D_bin D_un D_eq D_convInt D_extract
end Go.Ab

/- Maps with known entries. -/
namespace Go.Ab
theorem mapOf_at {h : AHeap} {r c : Nat} {es : List MapEntry} (e : h.at r = some (.map es c)) : mapOf h r = some (es, c) := by
  unfold mapOf; rw [← at_eq, e]
/-- looking into a map -/
def lkp (h : AHeap) (kk : CK) (zero : Value) (ok : Bool) (m k : Value) : Res :=
  if keyFits kk k then
    match m with
    | .map none => some (if ok then .tuple #[zero, .bool false] else zero, h)
    | .map (some r) => match mapOf h r with
      | some (es, _) => match findE k es 0 with
        | some (some i) => (es[i]?).map fun e => (if ok then .tuple #[e.val, .bool true] else e.val, h)
        | some none => some (if ok then .tuple #[zero, .bool false] else zero, h)
        | none => none
      | none => none
    | _ => none
  else none
def mup (h : AHeap) (kk : CK) (m k v : Value) : Res :=
  if keyFits kk k then
    match m with
    | .map (some r) => match mapOf h r with
      | some (es, c) => match findE k es 0 with
        | some (some i) => (setMap h r (es.modify i fun e => { e with val := v }) c).map fun h' => (.tuple #[], h')
        | some none => (setMap h r (es ++ [{ key := k, val := v, born := c }]) (c + 1)).map fun h' => (.tuple #[], h')
        | none => none
      | none => none
    | _ => none
  else none
def mln (h : AHeap) : Value → Option Value
  | .map none => some (iv 0)
  | .map (some r) => (mapOf h r).map fun (es, _) => iv es.length
  | _ => none
section
variable {C : Ctx} {t : List Value} {h : AHeap}
theorem ay_lookup {kk : CK} {z : Value} {ok : Bool} {m k : AArg} : aexec C t h (.lookup kk z ok m k) = lkp h kk z ok (m.ev t) (k.ev t) := nr rfl
theorem ay_mapUpd {kk : CK} {m k v : AArg} : aexec C t h (.mapUpd kk m k v) = mup h kk (m.ev t) (k.ev t) (v.ev t) := nr rfl
theorem ay_lenMap {m : AArg} : aexec C t h (.lenMap m) = vh h (mln h (m.ev t)) := by
  simp only [aexec]
  cases m.ev t <;> try rfl
  rename_i r
  cases r with
  | none => rfl
  | some r => simp only [mln]; cases mapOf h r <;> rfl
theorem lkp_no {kk : CK} {z k : Value} {ok : Bool} {r c : Nat} {es : List MapEntry} (hk : keyFits kk k = true) (e : h.at r = some (.map es c)) (hf : findE k es 0 = some none) :
    lkp h kk z ok (.map (some r)) k = some (if ok then .tuple #[z, .bool false] else z, h) := by
  simp only [lkp, hk, if_true, mapOf_at e, hf]
theorem lkp_yes {kk : CK} {z k : Value} {ok : Bool} {r c i : Nat} {es : List MapEntry} {x : MapEntry} (hk : keyFits kk k = true) (e : h.at r = some (.map es c)) (hf : findE k es 0 = some (some i)) (hx : es[i]? = some x) :
    lkp h kk z ok (.map (some r)) k = some (if ok then .tuple #[x.val, .bool true] else x.val, h) := by
  simp only [lkp, hk, if_true, mapOf_at e, hf, hx, Option.map_some]
theorem mup_no {kk : CK} {k v : Value} {r c : Nat} {es : List MapEntry} (hk : keyFits kk k = true) (e : h.at r = some (.map es c)) (hf : findE k es 0 = some none) (hlo : h.lo ≤ r) :
    mup h kk (.map (some r)) k v = some (.tuple #[], h.put r (.map (es ++ [{ key := k, val := v, born := c }]) (c + 1))) := by
  simp only [mup, hk, if_true, mapOf_at e, hf, setMap, Nat.not_lt.2 hlo, if_false, Option.map_some]
theorem mup_yes {kk : CK} {k v : Value} {r c i : Nat} {es : List MapEntry} (hk : keyFits kk k = true) (e : h.at r = some (.map es c)) (hf : findE k es 0 = some (some i)) (hlo : h.lo ≤ r) :
    mup h kk (.map (some r)) k v = some (.tuple #[], h.put r (.map (es.modify i fun e => { e with val := v }) c)) := by
  simp only [mup, hk, if_true, mapOf_at e, hf, setMap, Nat.not_lt.2 hlo, if_false, Option.map_some]
theorem mln_at {r c : Nat} {es : List MapEntry} (e : h.at r = some (.map es c)) : mln h (.map (some r)) = some (iv es.length) := by
  simp only [mln, mapOf_at e, Option.map_some]
end
theorem cell1 {a : Value} {l : List Value} : (a :: l)[0]? = some a := nr rfl
/-- a call of which it is told what it does -/
theorem cal_intro {C : Ctx} {rs : List ARes} {x : Res} {dn : Option Nat} {os : List AOper} {k : List AItem} {t : List Value} {ds : List ADefer} {F : Value → AHeap → Prop} {P : Value → AHeap → Prop}
    (hx : ∃ v h', x = some (v, h') ∧ F v h') (g : ∀ v h', F v h' → ∃ r h'', R C rs (.ops os :: k) (putD t dn v) ds h' = some (r, h'') ∧ P r h'') : ∃ r h'', cal C rs x dn os k t ds = some (r, h'') ∧ P r h'' := by
  obtain ⟨v, h', e, f⟩ := hx
  rw [e]
  exact g v h' f
@[simp] theorem aun_not {b : Bool} : aun .not (.bool b) = some (.bool !b) := nr rfl
theorem wr1_box {h : AHeap} {b fz : Nat} {x v : Value} (hv : okCell v = true) : wr1 h b (some (.cells [x] (fz + 1))) 0 0 v = some (h.put b (.cells [v] (fz + 1))) := by rw [wr1_cells (by simp) hv]; rfl
@[simp] theorem aeq_nilS {a : Option Addr} {n c : Nat} : aeq .nilS (.slice a n c) (.slice none 0 0) = some a.isNone := by cases a <;> rfl
@[simp] theorem fits_str {l : List UInt8} : keyFits .s (str l) = true := nr rfl
@[simp] theorem findE_nil {k : Value} {i : Nat} : findE k [] i = some none := nr rfl
theorem veq1_str {a b : List UInt8} : veq1 (str a) (str b) = some (decide (a = b)) := nr rfl
theorem findE_hit {a : List UInt8} {v : Value} {b i : Nat} {es : List MapEntry} : findE (str a) (⟨str a, v, b⟩ :: es) i = some (some i) := by
  simp only [findE, veq1_str, decide_true]
attribute [simp] ay_lookup ay_mapUpd ay_lenMap
end Go.Ab

/- Rounds of a range over a function. -/
namespace Go.Ab
section
variable {C : Ctx} {rs : List ARes} {k : List AItem} {t : List Value} {ds : List ADefer} {h : AHeap}
@[simp] theorem R_beginRound {b : Nat} : R C rs (.beginRound b :: k) t ds h = bnd (roundBegin b h) fun h' => R C rs k t ds h' := by
  rw [R_step]
  simp only [stepM]
  cases roundBegin b h <;> rfl
@[simp] theorem R_endRound : R C rs [.endRound] t [] h = some (.int .i64 0, h) := by rw [R_step]; rfl
@[simp] theorem inRd_last : inRoundA [.endRound] = true := nr rfl
@[simp] theorem inRd_cons {x y : AItem} {k : List AItem} : inRoundA (x :: y :: k) = inRoundA (y :: k) := by cases x <;> rfl
attribute [simp] xit_none
theorem D_yield (hY : C.T fYield = none) {args : List Value} : D C fYield args h = doRound C (R C) args h := by
  unfold D doCall
  rw [hY]
  simp only [if_true]
theorem D_take (hY : C.T fTake = none) {b : Nat} (hb : h.bs[b]? = some (.dfr false)) (hl : h.lo ≤ b) : D C fTake [.pointer (some ⟨b, 0, some 0⟩)] h = some (.tuple #[], h.put b (.dfr true)) := by
  unfold D doCall
  rw [hY]
  simp only
  rw [if_neg (by decide)]
  simp only [if_true, doTake, hb, if_pos hl]
/-- one round -/
theorem D_round (hY : C.T fYield = none) {b nt : Nat} {A B : Code} {a0 b0 : ACode} {ps : List Nat} {snap args : List Value} {v : Value} {h1 : AHeap} {st : Nat} {ps' : List Nat} {A' B' : Code} {nt' : Nat} {snap' : List Value}
    (hb : h.bs[b]? = some (.loop ps A B nt snap 0)) (hlo : h.lo ≤ b) (hl : args.length = ps.length) (hu : args.any isUnd = false) (hA : C.cc nt A = a0) (hB : C.cc nt B = b0) (hna : isBad a0 = false) (hnb : isBad b0 = false)
    (hr : R C [] [.code a0, .beginRound b, .code b0, .endRound] (bindPs (ps.zip args) snap) [] h = some (v, h1)) (hb1 : h1.bs[b]? = some (.loop ps' A' B' nt' snap' 2)) (hs : stOf v = some st) :
    D C fYield (args ++ [.pointer (some ⟨b, 0, some 0⟩)]) h = some (.bool (st == 0), h1.put b (.loop ps' A' B' nt' snap' st)) := by
  rw [D_yield hY]
  unfold doRound roundIn
  simp only [List.reverse_append, List.reverse_cons, List.reverse_nil, List.nil_append, List.cons_append, hb, List.length_reverse, List.any_reverse, List.reverse_reverse]
  rw [if_pos ⟨hlo, hl, hu⟩]
  simp only [hA, hB, hna, hnb, Bool.or_self, Bool.false_eq_true, if_false, hr, roundEnd, hs, hb1]
/-- a range over a function -/
theorem R_rfunc {f : AArg} {ps : List Nat} {A B : Code} {nt : Nat} : R C rs (.code (.rfunc f ps A B nt) :: k) t ds h = rfStep C (R C) (R C) rs f ps A B nt k t ds h := by rw [R_step]; rfl
theorem R_rf {f : AArg} {ps : List Nat} {A B : Code} {nt : Nat} {g : FuncId} {fn : AFn} {first cap : List Value} {v : Value} {h2 : AHeap} {ps' : List Nat} {A' B' : Code} {nt' : Nat} {snap : List Value} {st : Nat}
    (hf : f.ev t = .func (.func g) ⟨first⟩ ⟨cap⟩) (hT : C.T g = some (.fn fn)) (hu : (first ++ [yieldV (h.bs.length + 1)] ++ cap).any isUnd = false)
    (hd : D C g (first ++ [yieldV (h.bs.length + 1)] ++ cap) ((h.push (.dfr false)).push (.loop ps A B nt t 0)) = some (v, h2)) (hb : h2.bs[h.bs.length + 1]? = some (.loop ps' A' B' nt' snap st)) (hst : ¬ (st = 2 ∨ st = 3)) :
    R C rs (.code (.rfunc f ps A B nt) :: k) t ds h = rfNext C (R C) (R C) rs k t (⟨fTake, [.pointer (some ⟨h.bs.length, 0, some 0⟩)]⟩ :: ds) st (h2.put (h.bs.length + 1) (.loop ps' A' B' nt' snap 3)) := by
  rw [R_rfunc]
  unfold D at hd
  simp only [rfStep, rfCall, hf, hT, hu, Bool.false_eq_true, if_false, hd, rfDone, hb, if_neg hst]
theorem rfNext_0 : rfNext C (R C) (R C) rs k t ds 0 h = R C rs k t ds h := nr rfl
theorem rfNext_1 : rfNext C (R C) (R C) rs k t ds 1 h = finD C rs t ds h := nr rfl
end
end Go.Ab

/- Arguments: what the model's reading of an argument says about old memory. -/
namespace Go.Ab
open Go.ChangeShapes
section
variable {H : Type} {enc : TypeId × Value → H} {P : Program} {W : World} {spare : Nat → Bool} {held : Bool}
theorem spot_of_cell {W : World} {a : Addr} {v : Value} (h : W.cell? a = some v) : a.spot = none := by
  unfold World.cell? at h
  split at h
  · split at h
    · cases h
    · rename_i hs; simpa using hs
  · cases h
/-- abstract cells of old memory -/
def OldCells (cs c : List Value) : Prop := cs.length = c.length ∧ ∀ (i : Nat) x, cs[i]? = some x → ∃ y, oldV x = some y ∧ c[i]? = some y
theorem oldOf_cell {b o : Nat} {x y : Value} (h : W.cell? ⟨b, o, none⟩ = some x) (hy : oldV x = some y) : oldOf W b o = some y := by
  unfold oldOf
  rw [h]; exact hy
/-- a row of cells in old memory, read -/
theorem readN_old {a : Addr} {n : Nat} {c : List Value} (hs : a.spot = none) (hc : c.length = n) (h : ∀ i, i < n → oldOf W a.block (a.off + i) = c[i]?) (g : AHeap) : readN (oldOf W) g a n = some c := by
  unfold readN
  rw [hs]
  refine mapM_of (by simp [hc]) fun i x hx => ?_
  have hi : i < n := by
    rcases Nat.lt_or_ge i n with h | h
    · exact h
    · rw [List.getElem?_eq_none (by simpa using h)] at hx; cases hx
  rw [List.getElem?_range hi] at hx
  cases hx
  exact h i hi
/-- a slice in old memory: E says what its elements' cells stand for -/
theorem arg_slice_q {t e k : Nat} {fuel : Nat} {cs : List Value} {x : DataW H × List MemPlace} (ht : P.underlying t = some (.slice e)) (hk : P.cellsOf e = k) (hk0 : 0 < k) (hsp : ∀ b, spare b = true)
    (Q : DataW H → Prop) (hQ : ∀ ds rest, x.1 = .slice ds rest → ∀ d, d ∈ ds → Q d) (E : List Value → Prop) (hE : ∀ n cs y, cs.length = k → Q y.1 → DataW.trod enc P W 0 spare held n e cs = some y → ∃ c, OldCells cs c ∧ E c)
    (h : DataW.trod enc P W 0 spare held fuel t cs = some x) :
    ∃ v av a len cp, ∃ els : List (List Value), cs = [v] ∧ oldV v = some av ∧ av = .slice a len cp ∧ els.length = len ∧ len ≤ maxLen ∧ (∀ c, c ∈ els → E c ∧ c.length = k) ∧ (∀ g, SlR (oldOf W) g k (.slice a len cp) els.flatten) ∧ (∀ j, ¬ Live (.slice a len cp) j) ∧ (0 < len → ∃ ds rest, x.1 = .slice ds rest ∧ ds.length = len) := by
  rcases DataW.trod_slice ht h with ⟨rfl, _⟩ | ⟨a, len, cap, elems, rest, n, _, rfl, hx, hb, hl, hm, hlen, hel, hsp2, _⟩
  · exact ⟨_, _, none, 0, 0, [], rfl, rfl, rfl, rfl, Nat.zero_le _, (fun c hc => by cases hc), (fun g => ⟨rfl, rfl, rfl⟩), (fun j hj => hj), fun h => absurd h (by omega)⟩
  · by_cases hc0 : cap = 0
    · have hl0 : len = 0 := by omega
      subst hc0; subst hl0
      by_cases hs : a.spot = none
      · refine ⟨_, .slice (some a) 0 0, some a, 0, 0, [], rfl, by simp [oldV, okOld, hs], rfl, rfl, Nat.zero_le _, (fun c hc => by cases hc), (fun g => ⟨by simp, ?_⟩), (fun j hj => hj.1 hs), fun h => absurd h (by omega)⟩
        have : isRest a 0 = false := by unfold isRest; rw [hs]
        rw [this]
        exact ⟨Nat.le_refl _, fun h => absurd rfl h⟩
      · refine ⟨_, emptySl, some ⟨0, 0, some 0⟩, 0, 0, [], rfl, ?_, rfl, rfl, Nat.zero_le _, (fun c hc => by cases hc), (fun g => ⟨by simp, ?_⟩), (fun j hj => ?_), fun h => absurd h (by omega)⟩
        · have : okOld (.slice (some a) 0 0) = false := by
            cases hsp3 : a.spot with
            | none => exact absurd hsp3 hs
            | some z => simp [okOld, hsp3]
          simp [oldV, this]
        · rw [if_neg (by simp [isRest])]; exact ⟨Nat.le_refl _, fun h => absurd rfl h⟩
        · have := hj.2.2; simp [isRest] at this
    · have hels : ∀ n, n ≤ len → ∃ els : List (List Value), els.length = n ∧ (∀ c, c ∈ els → E c ∧ c.length = k) ∧ els.flatten.length = n * k ∧ (0 < n → a.spot = none) ∧ ∀ q, q < n * k → oldOf W a.block (a.off + q) = els.flatten[q]? := by
        intro n
        induction n with
        | zero => exact fun _ => ⟨[], rfl, (fun c hc => by cases hc), by simp, (fun h => by omega), fun q hq => by omega⟩
        | succ n ih =>
          intro hn
          obtain ⟨els, e1, e2, e3, e4, e5⟩ := ih (by omega)
          have h1 := hel n (by omega)
          rw [List.getElem?_eq_getElem (by omega), Option.bind_eq_some_iff] at h1
          obtain ⟨cs', hcs, htr⟩ := h1
          have hcs2 := World.cells?_some hcs
          have hln : cs'.length = k := by rw [← hk]; exact hcs2.2.1
          obtain ⟨c, ⟨oc1, oc2⟩, hEc⟩ := hE _ cs' _ hln (hQ _ _ (by rw [hx]) _ (List.mem_map_of_mem (List.getElem_mem _))) htr
          have hspot : a.spot = none := by
            by_cases hn0 : n = 0
            · have h2 := hcs2.2.2 0 (by omega)
              rw [List.getElem?_eq_getElem (by omega)] at h2
              have := spot_of_cell h2
              simpa [Addr.add, hn0] using this
            · exact e4 (by omega)
          have hfl : (els ++ [c]).flatten = els.flatten ++ c := by simp
          refine ⟨els ++ [c], by simp [e1], fun c' hc' => ?_, ?_, fun _ => hspot, fun q hq => ?_⟩
          · rcases List.mem_append.1 hc' with hc' | hc'
            · exact e2 c' hc'
            · rw [List.mem_singleton] at hc'; subst hc'; exact ⟨hEc, by omega⟩
          · rw [hfl, List.length_append, e3, Nat.succ_mul]; omega
          · rw [hfl]
            rw [Nat.succ_mul] at hq
            by_cases hq1 : q < n * k
            · rw [List.getElem?_append_left (by omega)]; exact e5 q hq1
            · rw [List.getElem?_append_right (by omega), e3]
              have h2 := hcs2.2.2 (q - n * k) (by omega)
              rw [List.getElem?_eq_getElem (by omega)] at h2
              obtain ⟨y, hy1, hy2⟩ := oc2 (q - n * k) _ (List.getElem?_eq_getElem (by omega))
              rw [hy2]
              have hadd : (a.add (n * P.cellsOf e)).add (q - n * k) = ⟨a.block, a.off + q, none⟩ := by
                rw [hk]
                rw [add_of_none hspot, add_of_none (a := { a with off := a.off + n * k }) hspot]
                simp only [hspot, Addr.mk.injEq, true_and, and_true]
                omega
              rw [hadd] at h2
              exact oldOf_cell h2 hy1
      have hspot : a.spot = none := by
        by_cases hl0 : 0 < len
        · obtain ⟨_, _, _, _, e4, _⟩ := hels len (Nat.le_refl _)
          exact e4 hl0
        · obtain ⟨r1, r2⟩ := hsp2 (hsp _)
          have h1 := r2 0 (by omega)
          rw [List.getElem?_eq_getElem (by omega), Option.bind_eq_some_iff] at h1
          obtain ⟨cs', hcs, htr⟩ := h1
          have hcs2 := World.cells?_some hcs
          have hln : cs'.length = k := by rw [← hk]; exact hcs2.2.1
          have h2 := hcs2.2.2 0 (by omega)
          rw [List.getElem?_eq_getElem (by omega)] at h2
          have := spot_of_cell h2
          simpa [Addr.add, show len = 0 by omega] using this
      obtain ⟨els, e1, e2, e3, _, e5⟩ := hels len (Nat.le_refl _)
      refine ⟨_, .slice (some a) len cap, some a, len, cap, els, rfl, by simp [oldV, okOld, hspot], rfl, e1, by omega, e2, fun g => ⟨e3, ?_⟩, (fun j hj => hj.1 hspot), fun _ => ⟨_, _, by rw [hx], by simp [hlen]⟩⟩
      have : isRest a cap = false := by unfold isRest; rw [hspot]
      rw [this]
      exact ⟨hl, fun _ => readN_old hspot e3 e5 g⟩
/-- a slice in old memory: E says what its elements' cells stand for -/
theorem arg_slice {t e k : Nat} {fuel : Nat} {cs : List Value} {x : DataW H × List MemPlace} (ht : P.underlying t = some (.slice e)) (hk : P.cellsOf e = k) (hk0 : 0 < k) (hsp : ∀ b, spare b = true)
    (E : List Value → Prop) (hE : ∀ n cs y, cs.length = k → DataW.trod enc P W 0 spare held n e cs = some y → ∃ c, OldCells cs c ∧ E c)
    (h : DataW.trod enc P W 0 spare held fuel t cs = some x) :
    ∃ v av a len cp, ∃ els : List (List Value), cs = [v] ∧ oldV v = some av ∧ av = .slice a len cp ∧ els.length = len ∧ len ≤ maxLen ∧ (∀ c, c ∈ els → E c ∧ c.length = k) ∧ (∀ g, SlR (oldOf W) g k (.slice a len cp) els.flatten) ∧ ∀ j, ¬ Live (.slice a len cp) j := by
  obtain ⟨v, av, a, len, cp, els, h1, h2, h3, h4, h5, h6, h7, h8, _⟩ := arg_slice_q ht hk hk0 hsp (fun _ => True) (fun _ _ _ _ _ => trivial) E (fun n cs y hl _ htr => hE n cs y hl htr) h
  exact ⟨v, av, a, len, cp, els, h1, h2, h3, h4, h5, h6, h7, h8⟩
end
end Go.Ab

/- Stepping operations on texts. -/
namespace Go.Ab
def lenSv (v : Value) (h : AHeap) : Option (Value × AHeap) := match v with
  | .string s => some (.int .i64 s.size, h)
  | _ => none
def s2bV (e : TypeId) (v : Value) (h : AHeap) : Option (Value × AHeap) := match v with
  | .string s => if s.size ≤ sizeLim then some (.slice (some ⟨h.bs.length, 0, some (s.size + 1)⟩) s.size 0, h.push (.grow (bytesVals s.data.toList) 0 (e + 1) 1)) else none
  | _ => none
def slcSv (v : Value) (lo hi : Option (Option Int)) (h : AHeap) : Option (Value × AHeap) := match v, lo, hi with
  | .string s, some lo, some hi =>
    let l := lo.getD 0
    let u := hi.getD s.size
    if 0 ≤ l ∧ l ≤ u ∧ u ≤ s.size then some (str ((s.data.toList.drop l.toNat).take (u.toNat - l.toNat)), h) else none
  | _, _, _ => none
def idxSv (v i : Value) (h : AHeap) : Option (Value × AHeap) := match v, asI i with
  | .string s, some i => if 0 ≤ i then (match s.data.toList[i.toNat]? with
    | some b => some (.int .u8 b.toNat, h)
    | none => none) else none
  | _, _ => none
section
variable {C : Ctx} {t : List Value} {h : AHeap} {x : AArg}
@[simp high] theorem ax_lenS2 : aexec C t h (.lenS x) = lenSv (x.ev t) h := nr rfl
@[simp high] theorem ax_s2b2 {e : TypeId} : aexec C t h (.str2bytes e x) = s2bV e (x.ev t) h := nr rfl
@[simp high] theorem ax_slcS2 {lo hi : Option AArg} : aexec C t h (.sliceStr x lo hi) = slcSv (x.ev t) (optI t lo) (optI t hi) h := nr rfl
@[simp high] theorem ax_idxS2 {i : AArg} : aexec C t h (.idxStr x i) = idxSv (x.ev t) (i.ev t) h := nr rfl
end
section
variable {h : AHeap} {s : List UInt8}
@[simp] theorem lenSv_str : lenSv (str s) h = some (iv s.length, h) := nr rfl
theorem s2bV_str {e : TypeId} (hs : s.length ≤ sizeLim) : s2bV e (str s) h = some (.slice (some ⟨h.bs.length, 0, some (s.length + 1)⟩) s.length 0, h.push (.grow (bytesVals s) 0 (e + 1) 1)) := by
  show (if s.length ≤ sizeLim then _ else _) = _
  rw [if_pos hs]; rfl
theorem slcSv_str {lo hi : Option Int} {l u : Nat} (hl : lo.getD 0 = l) (hu : hi.getD s.length = u) (h1 : l ≤ u) (h2 : u ≤ s.length) :
    slcSv (str s) (some lo) (some hi) h = some (str ((s.drop l).take (u - l)), h) := by
  show (if (0 : Int) ≤ lo.getD 0 ∧ lo.getD 0 ≤ hi.getD s.length ∧ hi.getD s.length ≤ s.length then some (str ((s.drop (lo.getD 0).toNat).take ((hi.getD s.length).toNat - (lo.getD 0).toNat)), h) else none) = _
  rw [hl, hu, if_pos ⟨by omega, by omega, by omega⟩]; rfl
theorem idxSv_str {i : Nat} (hi : i < s.length) : idxSv (str s) (iv i) h = some (bv (s.getD i 0), h) := by
  show (if (0 : Int) ≤ (i : Int) then (match s[i]? with
    | some b => some (Value.int .u8 b.toNat, h)
    | none => none) else none) = _
  rw [if_pos (by omega), List.getElem?_eq_getElem hi, List.getD_eq_getElem?_getD, List.getElem?_eq_getElem hi]
  rfl
end
/-- the row that a text turned into bytes is -/
theorem s2b_own {h : AHeap} {e : Nat} {s : List UInt8} (hwf : h.lo ≤ h.bs.length) : Own (h.push (.grow (bytesVals s) 0 (e + 1) 1)) e 1 (.slice (some ⟨h.bs.length, 0, some (s.length + 1)⟩) s.length 0) s.length (bytesVals s) := by
  refine .inr ⟨h.bs.length, bytesVals s, 0, by simp, push_self, by omega, by simp, ?_, hwf⟩
  rw [List.take_of_length_le (by simp)]
theorem bytesVals_append (a b : List UInt8) : bytesVals (a ++ b) = bytesVals a ++ bytesVals b := by simp [bytesVals]
end Go.Ab

/- Slicing asks of memory what reading asks. -/
namespace Go.Ab
section
variable {old : Old} {h h' : AHeap} {k n cp : Nat} {v : Value} {a : Option Addr} {c : List Value} {S : Nat → Prop}
theorem SlR.kof {a' : Addr} (w : SlR old h k (.slice (some a') n cp) c) (hr : isRest a' cp = true) : kOf h a'.block = k := by
  obtain ⟨_, h2⟩ := w
  rw [if_pos hr] at h2
  obtain ⟨⟨g, last, fz, h3⟩, _⟩ := h2
  unfold kOf; rw [← at_eq, h3]
/-- slicing asks of memory alone what reading asks -/
theorem sliceV_same {c' : List Value} {lo hi mx : Option Int} (w : SlR old h k (.slice a n cp) c) (w' : SlR old h' k (.slice a n cp) c') : sliceV h' k (.slice a n cp) lo hi mx = sliceV h k (.slice a n cp) lo hi mx := by
  cases a with
  | none => rfl
  | some a =>
    unfold sliceV
    by_cases hr : isRest a cp = true
    · simp only [hr, if_true, w.kof hr, w'.kof hr]
    · have hr' : isRest a cp = false := by simpa using hr
      simp only [hr', Bool.false_eq_true, if_false]
end
end Go.Ab

/- The two atomic operations that an uncontended mutex uses. -/
namespace Go.Ab
variable {P : Program} {C : Ctx} {w1 : World} {f : FuncId} {F : Func}
theorem run_load_atomic {w : World} {a : Addr} {v : Value} (h : w.cell? a = some v) : (load a .atomic).run P w = .ok v w := by
  simp [load, Sem.run, h]
theorem store_of_cells {w w' : World} {a : Addr} {k : IntKind} {n : Int} {v0 : Value} (hc : w.cell? a = some v0) (h : (storeCells a [.int k n]).run P w = .ok () w') : (store a (.int k n) .atomic).run P w = .ok () w' := by
  have ha : a.add 0 = a := by simp [Addr.add]
  simp only [storeCells, ha] at h
  simp only [Sem.run_bind, store, Sem.run, hc] at h ⊢
  split at h <;> simp_all
theorem update_two {op : IntKind → Int → Int → Sem Value} {k : IntKind} {rn : Bool} {x y : Value} : Extern.Atomic.update op k rn #[x, y] = (do
    let a ← asAddr x
    let old ← Extern.Atomic.read (.int k) a
    let new ← op k (← asInt old) (← asInt y)
    store a new .atomic
    pure (if rn then new else old)) := rfl
theorem write1_one {h h' : AHeap} {a : Addr} {v : Value} (hw : write1 h a v = some h') : writeN h a [v] = some h' := write1_eq hw
theorem ext_add32 (hold : OldOk C.old w1) (I : IsExt P f F (Extern.Atomic.update (Op.intArith .add) .i32 true)) : ExtOk P w1 C f .add32 := by
  refine I.ok fun m h w args args' v h' hr H he => ?_
  unfold extExec at he
  split at he <;> first | (rename_i heq; cases heq; done) | skip
  all_goals first | (cases he; done) | skip
  rename_i a n _
  obtain ⟨b, u, rfl, r1, r2⟩ := hr.uncons
  obtain ⟨b2, u2, rfl, r3, r4⟩ := r2.uncons
  have hu := r4.nil_left
  subst hu
  cases r3
  obtain ⟨a', rfl, har⟩ := r1.ptr
  split at he
  · rename_i x hx
    obtain ⟨v', hc, hv⟩ := read1_sim hold H hx har
    cases hv
    cases hw : write1 h a (.int .i32 (IntKind.i32.wrap (x + n))) with
    | none => rw [hw] at he; cases he
    | some h2 =>
      rw [hw] at he
      simp only [Option.map_some, Option.some.injEq, Prod.mk.injEq] at he
      obtain ⟨rfl, rfl⟩ := he
      obtain ⟨w', hrun, hH, hP⟩ := writeN_sim (P := P) H (write1_one hw) har (VRelL.cons (.int _ _) (VRelL.nil _))
      refine ⟨.int .i32 (IntKind.i32.wrap (x + n)), w', ?_, m, hH, hP, .int _ _, fun _ hv => by cases hv⟩
      have hs := store_of_cells (P := P) hc hrun
      show (Extern.Atomic.update (Op.intArith .add) .i32 true #[.pointer (some a'), .int .i32 n]).run P w = _
      rw [update_two]
      simp only [ Extern.Atomic.read, asAddr, asInt, asIntOf, Op.intArith, Sem.run_bind, Sem.run_pure, Result.andThen_ok, run_load_atomic hc, hs, if_true]
  · cases he
theorem shape_cells {w : World} {b e : Nat} {c : Array Value} {fz : Nat × Nat} (h : w.heap[b]? = some (.cells c e fz)) : (viewAt b).run P w = .ok none w := by
  simp [viewAt, shape, Sem.run, World.shape?, h]
theorem cas_three {t : Extern.Atomic.T} {x y z : Value} : Extern.Atomic.casT t #[x, y, z] = (do
    let a ← asAddr x
    if ← Extern.Atomic.touchesFrozen a then unsupported (.unsafePointer "a write to bytes that a string shares")
    let eq ← match t, ← Extern.Atomic.read t a, y with
      | _, .int _ x, .int _ y => pure (x == y)
      | .ptr, .pointer x, .pointer y => samePointer x y
      | .int _, .pointer (some _), .int _ 0 | .int _, .int _ 0, .pointer (some _) => pure false
      | .int _, .pointer (some _), _ | .int _, _, .pointer (some _) => unsupported .addressObserved
      | _, _, _ => stuck "atomic.CompareAndSwap: old is no T"
    if eq then store a z .atomic
    pure (.bool eq)) := rfl
theorem frozen_of_store {w w' : World} {a : Addr} {k : IntKind} {n : Int} {v0 : Value} (hc : w.cell? a = some v0) (h : (storeCells a [.int k n]).run P w = .ok () w') : w.frozen? a = false := by
  have ha : a.add 0 = a := by simp [Addr.add]
  simp only [storeCells, ha] at h
  simp only [Sem.run_bind, store, Sem.run, hc] at h
  cases hf : w.frozen? a with
  | false => rfl
  | true => rw [hf] at h; simp at h
theorem touches_not {w : World} {a : Addr} {v0 : Value} (hc : w.cell? a = some v0) (hf : w.frozen? a = false) : (Extern.Atomic.touchesFrozen a).run P w = .ok false w := by
  have hb : ∃ c e fz, w.heap[a.block]? = some (.cells c e fz) := by
    unfold World.cell? at hc
    split at hc
    · rename_i c e fz h; exact ⟨c, e, fz, h⟩
    · cases hc
  obtain ⟨c, e, fz, hb⟩ := hb
  unfold Extern.Atomic.touchesFrozen
  simp only [Sem.run_bind, shape_cells hb, Result.andThen_ok]
  simp [frozen, Sem.run, hf]
theorem ext_cas32 (hold : OldOk C.old w1) (I : IsExt P f F (Extern.Atomic.casT (.int .i32))) : ExtOk P w1 C f .cas32 := by
  refine I.ok fun m h w args args' v h' hr H he => ?_
  unfold extExec at he
  split at he <;> first | (rename_i heq; cases heq; done) | skip
  all_goals first | (cases he; done) | skip
  rename_i a o n _
  obtain ⟨b, u, rfl, r1, r2⟩ := hr.uncons
  obtain ⟨b2, u2, rfl, r3, r4⟩ := r2.uncons
  obtain ⟨b3, u3, rfl, r5, r6⟩ := r4.uncons
  have hu := r6.nil_left
  subst hu
  cases r3
  cases r5
  obtain ⟨a', rfl, har⟩ := r1.ptr
  split at he
  · rename_i x hx
    obtain ⟨v', hc, hv⟩ := read1_sim hold H hx har
    cases hv
    split at he
    · rename_i hxo
      subst hxo
      cases hw : write1 h a (.int .i32 n) with
      | none => rw [hw] at he; cases he
      | some h2 =>
        rw [hw] at he
        simp only [Option.map_some, Option.some.injEq, Prod.mk.injEq] at he
        obtain ⟨rfl, rfl⟩ := he
        obtain ⟨w', hrun, hH, hP⟩ := writeN_sim (P := P) H (write1_one hw) har (VRelL.cons (.int _ _) (VRelL.nil _))
        refine ⟨.bool true, w', ?_, m, hH, hP, .bool _, fun _ hv => by cases hv⟩
        have hs := store_of_cells (P := P) hc hrun
        have ht := touches_not (P := P) hc (frozen_of_store hc hrun)
        show (Extern.Atomic.casT (.int .i32) #[.pointer (some a'), .int .i32 x, .int .i32 n]).run P w = _
        rw [cas_three]
        simp only [Extern.Atomic.read, asAddr, Sem.run_bind, Sem.run_pure, Result.andThen_ok, run_load_atomic hc, ht, hs, if_true, Bool.false_eq_true, if_false, beq_self_eq_true]
    · cases he
  · cases he
end Go.Ab

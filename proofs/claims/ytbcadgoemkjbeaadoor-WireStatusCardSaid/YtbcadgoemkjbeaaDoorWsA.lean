/-
  The table of the functions that WireStatus reaches is what the compiling of the program's functions gives; no condition.
-/
import Derived.Test.YtbcadgoemkjbeaaDoorAbC
import Derived.Test.YtbcadgoemkjbeaaDoorCards
import Derived.Test.YtbcadgoemkjbeaaDoorTie

set_option linter.unusedSimpArgs false
set_option linter.unusedVariables false
set_option linter.unusedSectionVars false

namespace Go.Proofs.YtbcadgoemkjbeaaDoor.ws
open Go Go.Ab
def md (f : FuncId) : Bool := [7].contains f
noncomputable def a3 : AFn := (cFn Tryd.prog md Tryd.f3 0).getD default
noncomputable def a5 : AFn := (cFn Tryd.prog md Tryd.f5 0).getD default
noncomputable def a6 : AFn := (cFn Tryd.prog md Tryd.f6 0).getD default
noncomputable def a7 : AFn := (cFn Tryd.prog md Tryd.f7 3).getD default
noncomputable def a10 : AFn := (cFn Tryd.prog md Tryd.f10 0).getD default
noncomputable def a12 : AFn := (cFn Tryd.prog md Tryd.f12 0).getD default
noncomputable def a13 : AFn := (cFn Tryd.prog md Tryd.f13 0).getD default
noncomputable def a16 : AFn := (cFn Tryd.prog md Tryd.f16 0).getD default
noncomputable def a17 : AFn := (cFn Tryd.prog md Tryd.f17 0).getD default
noncomputable def a18 : AFn := (cFn Tryd.prog md Tryd.f18 0).getD default
noncomputable def a19 : AFn := (cFn Tryd.prog md Tryd.f19 0).getD default
noncomputable def a20 : AFn := (cFn Tryd.prog md Tryd.f20 0).getD default
noncomputable def a21 : AFn := (cFn Tryd.prog md Tryd.f21 0).getD default
noncomputable def a22 : AFn := (cFn Tryd.prog md Tryd.f22 0).getD default
noncomputable def a24 : AFn := (cFn Tryd.prog md Tryd.f24 0).getD default
noncomputable def a25 : AFn := (cFn Tryd.prog md Tryd.f25 0).getD default
noncomputable def a26 : AFn := (cFn Tryd.prog md Tryd.f26 0).getD default
noncomputable def a27 : AFn := (cFn Tryd.prog md Tryd.f27 0).getD default
noncomputable def a28 : AFn := (cFn Tryd.prog md Tryd.f28 0).getD default
noncomputable def a29 : AFn := (cFn Tryd.prog md Tryd.f29 0).getD default
noncomputable def a30 : AFn := (cFn Tryd.prog md Tryd.f30 0).getD default
noncomputable def a31 : AFn := (cFn Tryd.prog md Tryd.f31 0).getD default
noncomputable def a32 : AFn := (cFn Tryd.prog md Tryd.f32 0).getD default
noncomputable def a33 : AFn := (cFn Tryd.prog md Tryd.f33 0).getD default
noncomputable def a34 : AFn := (cFn Tryd.prog md Tryd.f34 0).getD default
noncomputable def a35 : AFn := (cFn Tryd.prog md Tryd.f35 0).getD default
noncomputable def a38 : AFn := (cFn Tryd.prog md Tryd.f38 0).getD default
noncomputable def a39 : AFn := (cFn Tryd.prog md Tryd.f39 0).getD default
noncomputable def a40 : AFn := (cFn Tryd.prog md Tryd.f40 0).getD default
noncomputable def a41 : AFn := (cFn Tryd.prog md Tryd.f41 0).getD default
noncomputable def a42 : AFn := (cFn Tryd.prog md Tryd.f42 0).getD default
noncomputable def a43 : AFn := (cFn Tryd.prog md Tryd.f43 0).getD default
noncomputable def a44 : AFn := (cFn Tryd.prog md Tryd.f44 0).getD default
noncomputable def a45 : AFn := (cFn Tryd.prog md Tryd.f45 0).getD default
noncomputable def a46 : AFn := (cFn Tryd.prog md Tryd.f46 0).getD default
noncomputable def a47 : AFn := (cFn Tryd.prog md Tryd.f47 0).getD default
noncomputable def a48 : AFn := (cFn Tryd.prog md Tryd.f48 0).getD default
noncomputable def a49 : AFn := (cFn Tryd.prog md Tryd.f49 0).getD default
noncomputable def a50 : AFn := (cFn Tryd.prog md Tryd.f50 0).getD default
noncomputable def a51 : AFn := (cFn Tryd.prog md Tryd.f51 0).getD default
noncomputable def a55 : AFn := (cFn Tryd.prog md Tryd.f55 0).getD default
noncomputable def a56 : AFn := (cFn Tryd.prog md Tryd.f56 0).getD default
noncomputable def a57 : AFn := (cFn Tryd.prog md Tryd.f57 0).getD default
noncomputable def a58 : AFn := (cFn Tryd.prog md Tryd.f58 0).getD default
noncomputable def a59 : AFn := (cFn Tryd.prog md Tryd.f59 0).getD default
noncomputable def a60 : AFn := (cFn Tryd.prog md Tryd.f60 0).getD default
noncomputable def a61 : AFn := (cFn Tryd.prog md Tryd.f61 0).getD default
noncomputable def a64 : AFn := (cFn Tryd.prog md Tryd.f64 0).getD default
noncomputable def a66 : AFn := (cFn Tryd.prog md Tryd.f66 0).getD default
noncomputable def a70 : AFn := (cFn Tryd.prog md Tryd.f70 0).getD default
noncomputable def a72 : AFn := (cFn Tryd.prog md Tryd.f72 0).getD default
noncomputable def a73 : AFn := (cFn Tryd.prog md Tryd.f73 0).getD default
noncomputable def a74 : AFn := (cFn Tryd.prog md Tryd.f74 0).getD default
noncomputable def a75 : AFn := (cFn Tryd.prog md Tryd.f75 0).getD default
noncomputable def a77 : AFn := (cFn Tryd.prog md Tryd.f77 0).getD default
noncomputable def tab0 : List (Nat × AFunc) := [(3, .fn a3), (5, .fn a5), (6, .fn a6), (7, .fn a7), (10, .fn a10), (12, .fn a12), (13, .fn a13), (16, .fn a16), (17, .fn a17), (18, .fn a18)]
noncomputable def tab1 : List (Nat × AFunc) := [(19, .fn a19), (20, .fn a20), (21, .fn a21), (22, .fn a22), (24, .fn a24), (25, .fn a25), (26, .fn a26), (27, .fn a27), (28, .fn a28), (29, .fn a29)]
noncomputable def tab2 : List (Nat × AFunc) := [(30, .fn a30), (31, .fn a31), (32, .fn a32), (33, .fn a33), (34, .fn a34), (35, .fn a35), (38, .fn a38), (39, .fn a39), (40, .fn a40), (41, .fn a41)]
noncomputable def tab3 : List (Nat × AFunc) := [(42, .fn a42), (43, .fn a43), (44, .fn a44), (45, .fn a45), (46, .fn a46), (47, .fn a47), (48, .fn a48), (49, .fn a49), (50, .fn a50), (51, .fn a51)]
noncomputable def tab4 : List (Nat × AFunc) := [(55, .fn a55), (56, .fn a56), (57, .fn a57), (58, .fn a58), (59, .fn a59), (60, .fn a60), (61, .fn a61), (62, .ext .noEscape), (63, .ext (.makeNoZero 5)), (64, .fn a64)]
noncomputable def tab5 : List (Nat × AFunc) := [(65, .ext .countStr), (66, .fn a66), (70, .fn a70), (72, .fn a72), (73, .fn a73), (74, .fn a74), (75, .fn a75), (76, .ext .indexByteStr), (77, .fn a77)]
noncomputable def tabs : List (List (Nat × AFunc)) := [tab0, tab1, tab2, tab3, tab4, tab5]
def look : List (Nat × AFunc) → Nat → Option AFunc
  | [], _ => none
  | (k, v) :: r, f => if k = f then some v else look r f
def look2 : List (List (Nat × AFunc)) → Nat → Option AFunc
  | [], _ => none
  | l :: r, f => match look l f with
    | some v => some v
    | none => look2 r f
noncomputable def Cx (old : Old) : Ctx := { old, T := look2 tabs, meth := fun _ _ => none, lies := fun e n off u => liesAt Tryd.prog Tryd.prog.depth e (n / Tryd.prog.cellsOf e) off u 1 }
def isT : Res → Bool
  | some (.bool true, _) => true
  | _ => false
def Good (C : Ctx) (f : FuncId) : AFunc → Prop
  | .fn fn => ∃ F, Tryd.prog.funcs[f]? = some F ∧ cFn Tryd.prog md F fn.mode = some fn
  | .ext e => ∀ w1, OldOk C.old w1 → ExtOk Tryd.prog w1 C f e
theorem look_all {Q : FuncId → AFunc → Prop} : ∀ {l : List (Nat × AFunc)}, (∀ p ∈ l, Q p.1 p.2) → ∀ {f v}, look l f = some v → Q f v
  | [], _, f, v, h => by cases h
  | (k, x) :: r, hq, f, v, h => by
    simp only [look] at h
    split at h
    · rename_i hk
      cases h
      subst hk
      exact hq (k, x) (by simp)
    · exact look_all (fun p hp => hq p (by simp [hp])) h
theorem g3 (old : Old) : Good (Cx old) 3 (.fn a3) := ⟨Tryd.f3, Tryd.func3, cFn_self (by kernel_rfl)⟩
theorem g5 (old : Old) : Good (Cx old) 5 (.fn a5) := ⟨Tryd.f5, Tryd.func5, cFn_self (by kernel_rfl)⟩
theorem g6 (old : Old) : Good (Cx old) 6 (.fn a6) := ⟨Tryd.f6, Tryd.func6, cFn_self (by kernel_rfl)⟩
theorem g7 (old : Old) : Good (Cx old) 7 (.fn a7) := ⟨Tryd.f7, Tryd.func7, cFn_self (by kernel_rfl)⟩
theorem g10 (old : Old) : Good (Cx old) 10 (.fn a10) := ⟨Tryd.f10, Tryd.func10, cFn_self (by kernel_rfl)⟩
theorem g12 (old : Old) : Good (Cx old) 12 (.fn a12) := ⟨Tryd.f12, Tryd.func12, cFn_self (by kernel_rfl)⟩
theorem g13 (old : Old) : Good (Cx old) 13 (.fn a13) := ⟨Tryd.f13, Tryd.func13, cFn_self (by kernel_rfl)⟩
theorem g16 (old : Old) : Good (Cx old) 16 (.fn a16) := ⟨Tryd.f16, Tryd.func16, cFn_self (by kernel_rfl)⟩
theorem g17 (old : Old) : Good (Cx old) 17 (.fn a17) := ⟨Tryd.f17, Tryd.func17, cFn_self (by kernel_rfl)⟩
theorem g18 (old : Old) : Good (Cx old) 18 (.fn a18) := ⟨Tryd.f18, Tryd.func18, cFn_self (by kernel_rfl)⟩
theorem g19 (old : Old) : Good (Cx old) 19 (.fn a19) := ⟨Tryd.f19, Tryd.func19, cFn_self (by kernel_rfl)⟩
theorem g20 (old : Old) : Good (Cx old) 20 (.fn a20) := ⟨Tryd.f20, Tryd.func20, cFn_self (by kernel_rfl)⟩
theorem g21 (old : Old) : Good (Cx old) 21 (.fn a21) := ⟨Tryd.f21, Tryd.func21, cFn_self (by kernel_rfl)⟩
theorem g22 (old : Old) : Good (Cx old) 22 (.fn a22) := ⟨Tryd.f22, Tryd.func22, cFn_self (by kernel_rfl)⟩
theorem g24 (old : Old) : Good (Cx old) 24 (.fn a24) := ⟨Tryd.f24, Tryd.func24, cFn_self (by kernel_rfl)⟩
theorem g25 (old : Old) : Good (Cx old) 25 (.fn a25) := ⟨Tryd.f25, Tryd.func25, cFn_self (by kernel_rfl)⟩
theorem g26 (old : Old) : Good (Cx old) 26 (.fn a26) := ⟨Tryd.f26, Tryd.func26, cFn_self (by kernel_rfl)⟩
theorem g27 (old : Old) : Good (Cx old) 27 (.fn a27) := ⟨Tryd.f27, Tryd.func27, cFn_self (by kernel_rfl)⟩
theorem g28 (old : Old) : Good (Cx old) 28 (.fn a28) := ⟨Tryd.f28, Tryd.func28, cFn_self (by kernel_rfl)⟩
theorem g29 (old : Old) : Good (Cx old) 29 (.fn a29) := ⟨Tryd.f29, Tryd.func29, cFn_self (by kernel_rfl)⟩
theorem g30 (old : Old) : Good (Cx old) 30 (.fn a30) := ⟨Tryd.f30, Tryd.func30, cFn_self (by kernel_rfl)⟩
theorem g31 (old : Old) : Good (Cx old) 31 (.fn a31) := ⟨Tryd.f31, Tryd.func31, cFn_self (by kernel_rfl)⟩
theorem g32 (old : Old) : Good (Cx old) 32 (.fn a32) := ⟨Tryd.f32, Tryd.func32, cFn_self (by kernel_rfl)⟩
theorem g33 (old : Old) : Good (Cx old) 33 (.fn a33) := ⟨Tryd.f33, Tryd.func33, cFn_self (by kernel_rfl)⟩
theorem g34 (old : Old) : Good (Cx old) 34 (.fn a34) := ⟨Tryd.f34, Tryd.func34, cFn_self (by kernel_rfl)⟩
theorem g35 (old : Old) : Good (Cx old) 35 (.fn a35) := ⟨Tryd.f35, Tryd.func35, cFn_self (by kernel_rfl)⟩
theorem g38 (old : Old) : Good (Cx old) 38 (.fn a38) := ⟨Tryd.f38, Tryd.func38, cFn_self (by kernel_rfl)⟩
theorem g39 (old : Old) : Good (Cx old) 39 (.fn a39) := ⟨Tryd.f39, Tryd.func39, cFn_self (by kernel_rfl)⟩
theorem g40 (old : Old) : Good (Cx old) 40 (.fn a40) := ⟨Tryd.f40, Tryd.func40, cFn_self (by kernel_rfl)⟩
theorem g41 (old : Old) : Good (Cx old) 41 (.fn a41) := ⟨Tryd.f41, Tryd.func41, cFn_self (by kernel_rfl)⟩
theorem g42 (old : Old) : Good (Cx old) 42 (.fn a42) := ⟨Tryd.f42, Tryd.func42, cFn_self (by kernel_rfl)⟩
theorem g43 (old : Old) : Good (Cx old) 43 (.fn a43) := ⟨Tryd.f43, Tryd.func43, cFn_self (by kernel_rfl)⟩
theorem g44 (old : Old) : Good (Cx old) 44 (.fn a44) := ⟨Tryd.f44, Tryd.func44, cFn_self (by kernel_rfl)⟩
theorem g45 (old : Old) : Good (Cx old) 45 (.fn a45) := ⟨Tryd.f45, Tryd.func45, cFn_self (by kernel_rfl)⟩
theorem g46 (old : Old) : Good (Cx old) 46 (.fn a46) := ⟨Tryd.f46, Tryd.func46, cFn_self (by kernel_rfl)⟩
theorem g47 (old : Old) : Good (Cx old) 47 (.fn a47) := ⟨Tryd.f47, Tryd.func47, cFn_self (by kernel_rfl)⟩
theorem g48 (old : Old) : Good (Cx old) 48 (.fn a48) := ⟨Tryd.f48, Tryd.func48, cFn_self (by kernel_rfl)⟩
theorem g49 (old : Old) : Good (Cx old) 49 (.fn a49) := ⟨Tryd.f49, Tryd.func49, cFn_self (by kernel_rfl)⟩
theorem g50 (old : Old) : Good (Cx old) 50 (.fn a50) := ⟨Tryd.f50, Tryd.func50, cFn_self (by kernel_rfl)⟩
theorem g51 (old : Old) : Good (Cx old) 51 (.fn a51) := ⟨Tryd.f51, Tryd.func51, cFn_self (by kernel_rfl)⟩
theorem g55 (old : Old) : Good (Cx old) 55 (.fn a55) := ⟨Tryd.f55, Tryd.func55, cFn_self (by kernel_rfl)⟩
theorem g56 (old : Old) : Good (Cx old) 56 (.fn a56) := ⟨Tryd.f56, Tryd.func56, cFn_self (by kernel_rfl)⟩
theorem g57 (old : Old) : Good (Cx old) 57 (.fn a57) := ⟨Tryd.f57, Tryd.func57, cFn_self (by kernel_rfl)⟩
theorem g58 (old : Old) : Good (Cx old) 58 (.fn a58) := ⟨Tryd.f58, Tryd.func58, cFn_self (by kernel_rfl)⟩
theorem g59 (old : Old) : Good (Cx old) 59 (.fn a59) := ⟨Tryd.f59, Tryd.func59, cFn_self (by kernel_rfl)⟩
theorem g60 (old : Old) : Good (Cx old) 60 (.fn a60) := ⟨Tryd.f60, Tryd.func60, cFn_self (by kernel_rfl)⟩
theorem g61 (old : Old) : Good (Cx old) 61 (.fn a61) := ⟨Tryd.f61, Tryd.func61, cFn_self (by kernel_rfl)⟩
theorem g62 (old : Old) : Good (Cx old) 62 (.ext .noEscape) := fun _ _ => ext_noEscape (F := Tryd.f62) ⟨Tryd.func62, by kernel_rfl, by kernel_rfl, by kernel_rfl, by kernel_rfl⟩
theorem g63 (old : Old) : Good (Cx old) 63 (.ext (.makeNoZero 5)) := fun _ _ => ext_makeNoZero (F := Tryd.f63) (ps := Tryd.f63.params) (rs := Tryd.f63.resultTypes) (t := 62) ⟨Tryd.func63, by kernel_rfl, by kernel_rfl, by kernel_rfl, by kernel_rfl⟩ (by kernel_rfl) Tryd.underlying62
theorem g64 (old : Old) : Good (Cx old) 64 (.fn a64) := ⟨Tryd.f64, Tryd.func64, cFn_self (by kernel_rfl)⟩
theorem g65 (old : Old) : Good (Cx old) 65 (.ext .countStr) := fun _ _ => ext_count (F := Tryd.f65) ⟨Tryd.func65, by kernel_rfl, by kernel_rfl, by kernel_rfl, by kernel_rfl⟩
theorem g66 (old : Old) : Good (Cx old) 66 (.fn a66) := ⟨Tryd.f66, Tryd.func66, cFn_self (by kernel_rfl)⟩
theorem g70 (old : Old) : Good (Cx old) 70 (.fn a70) := ⟨Tryd.f70, Tryd.func70, cFn_self (by kernel_rfl)⟩
theorem g72 (old : Old) : Good (Cx old) 72 (.fn a72) := ⟨Tryd.f72, Tryd.func72, cFn_self (by kernel_rfl)⟩
theorem g73 (old : Old) : Good (Cx old) 73 (.fn a73) := ⟨Tryd.f73, Tryd.func73, cFn_self (by kernel_rfl)⟩
theorem g74 (old : Old) : Good (Cx old) 74 (.fn a74) := ⟨Tryd.f74, Tryd.func74, cFn_self (by kernel_rfl)⟩
theorem g75 (old : Old) : Good (Cx old) 75 (.fn a75) := ⟨Tryd.f75, Tryd.func75, cFn_self (by kernel_rfl)⟩
theorem g76 (old : Old) : Good (Cx old) 76 (.ext .indexByteStr) := fun _ _ => ext_indexByte (F := Tryd.f76) ⟨Tryd.func76, by kernel_rfl, by kernel_rfl, by kernel_rfl, by kernel_rfl⟩
theorem g77 (old : Old) : Good (Cx old) 77 (.fn a77) := ⟨Tryd.f77, Tryd.func77, cFn_self (by kernel_rfl)⟩
theorem look2_all {Q : FuncId → AFunc → Prop} : ∀ {ls : List (List (Nat × AFunc))}, (∀ l ∈ ls, ∀ p ∈ l, Q p.1 p.2) → ∀ {f v}, look2 ls f = some v → Q f v
  | [], _, f, v, h => by cases h
  | l :: r, hq, f, v, h => by
    simp only [look2] at h
    split at h
    · rename_i x hx
      cases h
      exact look_all (hq l (by simp)) hx
    · exact look2_all (fun p hp => hq p (by simp [hp])) h
theorem all0 (old : Old) : ∀ p ∈ tab0, Good (Cx old) p.1 p.2 := by
  simp only [tab0, List.forall_mem_cons]
  exact ⟨g3 old, g5 old, g6 old, g7 old, g10 old, g12 old, g13 old, g16 old, g17 old, g18 old, fun _ h => by cases h⟩
theorem all1 (old : Old) : ∀ p ∈ tab1, Good (Cx old) p.1 p.2 := by
  simp only [tab1, List.forall_mem_cons]
  exact ⟨g19 old, g20 old, g21 old, g22 old, g24 old, g25 old, g26 old, g27 old, g28 old, g29 old, fun _ h => by cases h⟩
theorem all2 (old : Old) : ∀ p ∈ tab2, Good (Cx old) p.1 p.2 := by
  simp only [tab2, List.forall_mem_cons]
  exact ⟨g30 old, g31 old, g32 old, g33 old, g34 old, g35 old, g38 old, g39 old, g40 old, g41 old, fun _ h => by cases h⟩
theorem all3 (old : Old) : ∀ p ∈ tab3, Good (Cx old) p.1 p.2 := by
  simp only [tab3, List.forall_mem_cons]
  exact ⟨g42 old, g43 old, g44 old, g45 old, g46 old, g47 old, g48 old, g49 old, g50 old, g51 old, fun _ h => by cases h⟩
theorem all4 (old : Old) : ∀ p ∈ tab4, Good (Cx old) p.1 p.2 := by
  simp only [tab4, List.forall_mem_cons]
  exact ⟨g55 old, g56 old, g57 old, g58 old, g59 old, g60 old, g61 old, g62 old, g63 old, g64 old, fun _ h => by cases h⟩
theorem all5 (old : Old) : ∀ p ∈ tab5, Good (Cx old) p.1 p.2 := by
  simp only [tab5, List.forall_mem_cons]
  exact ⟨g65 old, g66 old, g70 old, g72 old, g73 old, g74 old, g75 old, g76 old, g77 old, fun _ h => by cases h⟩
theorem all (old : Old) : ∀ l ∈ tabs, ∀ p ∈ l, Good (Cx old) p.1 p.2 := by
  simp only [tabs, List.forall_mem_cons]
  exact ⟨all0 old, all1 old, all2 old, all3 old, all4 old, all5 old, fun _ h => by cases h⟩
theorem T7 (old : Old) : (Cx old).T 7 = some (.fn a7) := by kernel_rfl
theorem mode7 : a7.mode = 3 := by kernel_rfl
theorem mixed : Tryd.prog.follows .mixedOrders = true := by kernel_rfl
theorem liesOk (old : Old) : LiesOk Tryd.prog (Cx old) := by
  intro e n off u h
  dsimp only [Cx] at h
  exact h
theorem methOk (old : Old) (ty : TypeId) (name : String) : (Cx old).meth ty name = none := by dsimp only [Cx]
theorem Tx (old : Old) (f : FuncId) : (Cx old).T f = look2 tabs f := by dsimp only [Cx]
theorem envOk (W : World) : Env Tryd.prog md (Cx (oldOf W)) W where
  hold := oldOf_ok W
  lies := liesOk _
  mix := mixed
  fn := fun f fn h => look2_all (Q := Good (Cx (oldOf W))) (all _) (v := .fn fn) (by rw [← Tx (oldOf W)]; exact h)
  ext := fun f e h => look2_all (Q := Good (Cx (oldOf W))) (all _) (v := .ext e) (by rw [← Tx (oldOf W)]; exact h)
  meth := fun ty name f h => by rw [methOk] at h; cases h
  pure := fun f h => by
    have hf : f = 7 := by simpa [md] using h
    subst hf
    exact ⟨a7, T7 _, by rw [mode7]; decide⟩
end Go.Proofs.YtbcadgoemkjbeaaDoor.ws

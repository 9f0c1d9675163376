/-
  The proof of WireBackCardSaid in the program's model; no condition beside the card's own.
-/
import Derived.Test.YtbcadgoemkjbeaaDoorChecked
import Derived.Test.YtbcadgoemkjbeaaDoorAuC
import Derived.Test.YtbcadgoemkjbeaaDoorAbD
import Derived.Test.YtbcadgoemkjbeaaDoorAbC

set_option linter.unusedSimpArgs false
set_option linter.unusedVariables false
set_option linter.unusedSectionVars false

namespace Go.Proofs.YtbcadgoemkjbeaaDoor.wb
open Go Go.Ab Go.Ab.Aud Go.Sha
set_option maxRecDepth 100000
def md (f : FuncId) : Bool := [5, 7, 8, 9, 10, 13, 14, 15, 16, 17, 18, 19, 21, 22, 23, 24, 26, 27, 34, 35, 36, 37, 38, 39, 43, 47, 48, 50, 51, 52, 53, 55, 56, 57, 61, 68, 69, 70, 74, 75].contains f
noncomputable def tab0 : List (Nat × AFunc) := [(4, .fn a4), (5, .fn a5), (7, .fn a7), (8, .fn a8), (9, .fn a9), (10, .fn a10), (11, .fn a11), (12, .fn a12), (13, .fn a13), (14, .fn a14)]
noncomputable def tab1 : List (Nat × AFunc) := [(15, .fn a15), (16, .fn a16), (17, .fn a17), (18, .fn a18), (19, .fn a19), (20, .fn a20), (21, .fn a21), (22, .fn a22), (23, .fn a23), (24, .fn a24)]
noncomputable def tab2 : List (Nat × AFunc) := [(25, .fn a25), (26, .fn a26), (27, .fn a27), (28, .fn a28), (29, .fn a29), (30, .fn a30), (31, .fn a31), (32, .fn a32), (33, .fn a33), (34, .fn a34)]
noncomputable def tab3 : List (Nat × AFunc) := [(35, .fn a35), (36, .fn a36), (37, .fn a37), (38, .fn a38), (39, .fn a39), (40, .fn a40), (43, .fn a43), (44, .fn a44), (45, .fn a45), (47, .fn a47)]
noncomputable def tab4 : List (Nat × AFunc) := [(48, .fn a48), (49, .fn a49), (50, .fn a50), (51, .fn a51), (52, .fn a52), (53, .fn a53), (54, .fn a54), (55, .fn a55), (56, .fn a56), (57, .fn a57)]
noncomputable def tab5 : List (Nat × AFunc) := [(61, .fn a61), (66, .fn a66), (68, .fn a68), (69, .fn a69), (70, .fn a70), (74, .fn a74), (75, .fn a75), (62, .ext .noEscape), (63, .ext (.makeNoZero 5)), (65, .ext .countStr)]
noncomputable def tab6 : List (Nat × AFunc) := [(76, .ext .indexByteStr)]
noncomputable def tabs : List (List (Nat × AFunc)) := [tab0, tab1, tab2, tab3, tab4, tab5, tab6]
def look : List (Nat × AFunc) → Nat → Option AFunc
  | [], _ => none
  | (k, v) :: r, f => if k = f then some v else look r f
def look2 : List (List (Nat × AFunc)) → Nat → Option AFunc
  | [], _ => none
  | l :: r, f => match look l f with
    | some v => some v
    | none => look2 r f
noncomputable def Cx (old : Old) : Ctx := { old, T := look2 tabs, cc := fun n c => cRound Tryd.prog md n c, meth := fun _ _ => none, lies := fun e n off u => liesAt Tryd.prog Tryd.prog.depth e (n / Tryd.prog.cellsOf e) off u 1 }
def Good (C : Ctx) (f : FuncId) : AFunc → Prop
  | .fn fn => ∃ F, Tryd.prog.funcs[f]? = some F ∧ cFn Tryd.prog md F fn.mode = some fn
  | .ext e => ∀ w1, OldOk C.old w1 → ExtOk Tryd.prog w1 C f e
theorem g4 (old : Old) : Good (Cx old) 4 (.fn a4) := ⟨Tryd.f4, Tryd.func4, by kernel_rfl⟩
theorem g5 (old : Old) : Good (Cx old) 5 (.fn a5) := ⟨Tryd.f5, Tryd.func5, by kernel_rfl⟩
theorem g7 (old : Old) : Good (Cx old) 7 (.fn a7) := ⟨Tryd.f7, Tryd.func7, by kernel_rfl⟩
theorem g8 (old : Old) : Good (Cx old) 8 (.fn a8) := ⟨Tryd.f8, Tryd.func8, by kernel_rfl⟩
theorem g9 (old : Old) : Good (Cx old) 9 (.fn a9) := ⟨Tryd.f9, Tryd.func9, by kernel_rfl⟩
theorem g10 (old : Old) : Good (Cx old) 10 (.fn a10) := ⟨Tryd.f10, Tryd.func10, by kernel_rfl⟩
theorem g11 (old : Old) : Good (Cx old) 11 (.fn a11) := ⟨Tryd.f11, Tryd.func11, by kernel_rfl⟩
theorem g12 (old : Old) : Good (Cx old) 12 (.fn a12) := ⟨Tryd.f12, Tryd.func12, by kernel_rfl⟩
theorem g13 (old : Old) : Good (Cx old) 13 (.fn a13) := ⟨Tryd.f13, Tryd.func13, by kernel_rfl⟩
theorem g14 (old : Old) : Good (Cx old) 14 (.fn a14) := ⟨Tryd.f14, Tryd.func14, by kernel_rfl⟩
theorem g15 (old : Old) : Good (Cx old) 15 (.fn a15) := ⟨Tryd.f15, Tryd.func15, by kernel_rfl⟩
theorem g16 (old : Old) : Good (Cx old) 16 (.fn a16) := ⟨Tryd.f16, Tryd.func16, by kernel_rfl⟩
theorem g17 (old : Old) : Good (Cx old) 17 (.fn a17) := ⟨Tryd.f17, Tryd.func17, by kernel_rfl⟩
theorem g18 (old : Old) : Good (Cx old) 18 (.fn a18) := ⟨Tryd.f18, Tryd.func18, by kernel_rfl⟩
theorem g19 (old : Old) : Good (Cx old) 19 (.fn a19) := ⟨Tryd.f19, Tryd.func19, by kernel_rfl⟩
theorem g20 (old : Old) : Good (Cx old) 20 (.fn a20) := ⟨Tryd.f20, Tryd.func20, by kernel_rfl⟩
theorem g21 (old : Old) : Good (Cx old) 21 (.fn a21) := ⟨Tryd.f21, Tryd.func21, by kernel_rfl⟩
theorem g22 (old : Old) : Good (Cx old) 22 (.fn a22) := ⟨Tryd.f22, Tryd.func22, by kernel_rfl⟩
theorem g23 (old : Old) : Good (Cx old) 23 (.fn a23) := ⟨Tryd.f23, Tryd.func23, by kernel_rfl⟩
theorem g24 (old : Old) : Good (Cx old) 24 (.fn a24) := ⟨Tryd.f24, Tryd.func24, by kernel_rfl⟩
theorem g25 (old : Old) : Good (Cx old) 25 (.fn a25) := ⟨Tryd.f25, Tryd.func25, by kernel_rfl⟩
theorem g26 (old : Old) : Good (Cx old) 26 (.fn a26) := ⟨Tryd.f26, Tryd.func26, by kernel_rfl⟩
theorem g27 (old : Old) : Good (Cx old) 27 (.fn a27) := ⟨Tryd.f27, Tryd.func27, by kernel_rfl⟩
theorem g28 (old : Old) : Good (Cx old) 28 (.fn a28) := ⟨Tryd.f28, Tryd.func28, by kernel_rfl⟩
theorem g29 (old : Old) : Good (Cx old) 29 (.fn a29) := ⟨Tryd.f29, Tryd.func29, by kernel_rfl⟩
theorem g30 (old : Old) : Good (Cx old) 30 (.fn a30) := ⟨Tryd.f30, Tryd.func30, by kernel_rfl⟩
theorem g31 (old : Old) : Good (Cx old) 31 (.fn a31) := ⟨Tryd.f31, Tryd.func31, by kernel_rfl⟩
theorem g32 (old : Old) : Good (Cx old) 32 (.fn a32) := ⟨Tryd.f32, Tryd.func32, by kernel_rfl⟩
theorem g33 (old : Old) : Good (Cx old) 33 (.fn a33) := ⟨Tryd.f33, Tryd.func33, by kernel_rfl⟩
theorem g34 (old : Old) : Good (Cx old) 34 (.fn a34) := ⟨Tryd.f34, Tryd.func34, by kernel_rfl⟩
theorem g35 (old : Old) : Good (Cx old) 35 (.fn a35) := ⟨Tryd.f35, Tryd.func35, by kernel_rfl⟩
theorem g36 (old : Old) : Good (Cx old) 36 (.fn a36) := ⟨Tryd.f36, Tryd.func36, by kernel_rfl⟩
theorem g37 (old : Old) : Good (Cx old) 37 (.fn a37) := ⟨Tryd.f37, Tryd.func37, by kernel_rfl⟩
theorem g38 (old : Old) : Good (Cx old) 38 (.fn a38) := ⟨Tryd.f38, Tryd.func38, by kernel_rfl⟩
theorem g39 (old : Old) : Good (Cx old) 39 (.fn a39) := ⟨Tryd.f39, Tryd.func39, by kernel_rfl⟩
theorem g40 (old : Old) : Good (Cx old) 40 (.fn a40) := ⟨Tryd.f40, Tryd.func40, by kernel_rfl⟩
theorem g43 (old : Old) : Good (Cx old) 43 (.fn a43) := ⟨Tryd.f43, Tryd.func43, by kernel_rfl⟩
theorem g44 (old : Old) : Good (Cx old) 44 (.fn a44) := ⟨Tryd.f44, Tryd.func44, by kernel_rfl⟩
theorem g45 (old : Old) : Good (Cx old) 45 (.fn a45) := ⟨Tryd.f45, Tryd.func45, by kernel_rfl⟩
theorem g47 (old : Old) : Good (Cx old) 47 (.fn a47) := ⟨Tryd.f47, Tryd.func47, by kernel_rfl⟩
theorem g48 (old : Old) : Good (Cx old) 48 (.fn a48) := ⟨Tryd.f48, Tryd.func48, by kernel_rfl⟩
theorem g49 (old : Old) : Good (Cx old) 49 (.fn a49) := ⟨Tryd.f49, Tryd.func49, by kernel_rfl⟩
theorem g50 (old : Old) : Good (Cx old) 50 (.fn a50) := ⟨Tryd.f50, Tryd.func50, by kernel_rfl⟩
theorem g51 (old : Old) : Good (Cx old) 51 (.fn a51) := ⟨Tryd.f51, Tryd.func51, by kernel_rfl⟩
theorem g52 (old : Old) : Good (Cx old) 52 (.fn a52) := ⟨Tryd.f52, Tryd.func52, by kernel_rfl⟩
theorem g53 (old : Old) : Good (Cx old) 53 (.fn a53) := ⟨Tryd.f53, Tryd.func53, by kernel_rfl⟩
theorem g54 (old : Old) : Good (Cx old) 54 (.fn a54) := ⟨Tryd.f54, Tryd.func54, by kernel_rfl⟩
theorem g55 (old : Old) : Good (Cx old) 55 (.fn a55) := ⟨Tryd.f55, Tryd.func55, by kernel_rfl⟩
theorem g56 (old : Old) : Good (Cx old) 56 (.fn a56) := ⟨Tryd.f56, Tryd.func56, by kernel_rfl⟩
theorem g57 (old : Old) : Good (Cx old) 57 (.fn a57) := ⟨Tryd.f57, Tryd.func57, by kernel_rfl⟩
theorem g61 (old : Old) : Good (Cx old) 61 (.fn a61) := ⟨Tryd.f61, Tryd.func61, by kernel_rfl⟩
theorem g66 (old : Old) : Good (Cx old) 66 (.fn a66) := ⟨Tryd.f66, Tryd.func66, by kernel_rfl⟩
theorem g68 (old : Old) : Good (Cx old) 68 (.fn a68) := ⟨Tryd.f68, Tryd.func68, by kernel_rfl⟩
theorem g69 (old : Old) : Good (Cx old) 69 (.fn a69) := ⟨Tryd.f69, Tryd.func69, by kernel_rfl⟩
theorem g70 (old : Old) : Good (Cx old) 70 (.fn a70) := ⟨Tryd.f70, Tryd.func70, by kernel_rfl⟩
theorem g74 (old : Old) : Good (Cx old) 74 (.fn a74) := ⟨Tryd.f74, Tryd.func74, by kernel_rfl⟩
theorem g75 (old : Old) : Good (Cx old) 75 (.fn a75) := ⟨Tryd.f75, Tryd.func75, by kernel_rfl⟩
theorem g62 (old : Old) : Good (Cx old) 62 (.ext .noEscape) := fun _ hold => by
  have _ := hold
  exact ext_noEscape (F := Tryd.f62) ⟨Tryd.func62, by kernel_rfl, by kernel_rfl, by kernel_rfl, by kernel_rfl⟩
theorem g63 (old : Old) : Good (Cx old) 63 (.ext (.makeNoZero 5)) := fun _ _ => ext_makeNoZero (F := Tryd.f63) (ps := Tryd.f63.params) (rs := Tryd.f63.resultTypes) (t := 62) ⟨Tryd.func63, by kernel_rfl, by kernel_rfl, by kernel_rfl, by kernel_rfl⟩ (by kernel_rfl) (by kernel_rfl)
theorem g65 (old : Old) : Good (Cx old) 65 (.ext .countStr) := fun _ hold => by
  have _ := hold
  exact ext_count (F := Tryd.f65) ⟨Tryd.func65, by kernel_rfl, by kernel_rfl, by kernel_rfl, by kernel_rfl⟩
theorem g76 (old : Old) : Good (Cx old) 76 (.ext .indexByteStr) := fun _ hold => by
  have _ := hold
  exact ext_indexByte (F := Tryd.f76) ⟨Tryd.func76, by kernel_rfl, by kernel_rfl, by kernel_rfl, by kernel_rfl⟩
theorem look_all {Q : FuncId → AFunc → Prop} : ∀ {l : List (Nat × AFunc)}, (∀ p ∈ l, Q p.1 p.2) → ∀ {f v}, look l f = some v → Q f v
  | [], _, f, v, h => by cases h
  | (k, x) :: r, hq, f, v, h => by
    simp only [look] at h
    split at h
    · rename_i hk
      cases h
      subst hk
      exact hq (k, x) (by simp)
    · exact look_all (fun p hp => hq p (by simp [hp])) h
theorem look2_all {Q : FuncId → AFunc → Prop} : ∀ {ls : List (List (Nat × AFunc))}, (∀ l ∈ ls, ∀ p ∈ l, Q p.1 p.2) → ∀ {f v}, look2 ls f = some v → Q f v
  | [], _, f, v, h => by cases h
  | l :: r, hq, f, v, h => by
    simp only [look2] at h
    split at h
    · rename_i x hx
      cases h
      exact look_all (hq l (by simp)) hx
    · exact look2_all (fun p hp => hq p (by simp [hp])) h
theorem all0 (old : Old) : ∀ p ∈ tab0, Good (Cx old) p.1 p.2 := by
  simp only [tab0, List.forall_mem_cons]
  exact ⟨g4 old, g5 old, g7 old, g8 old, g9 old, g10 old, g11 old, g12 old, g13 old, g14 old, fun _ h => by cases h⟩
theorem all1 (old : Old) : ∀ p ∈ tab1, Good (Cx old) p.1 p.2 := by
  simp only [tab1, List.forall_mem_cons]
  exact ⟨g15 old, g16 old, g17 old, g18 old, g19 old, g20 old, g21 old, g22 old, g23 old, g24 old, fun _ h => by cases h⟩
theorem all2 (old : Old) : ∀ p ∈ tab2, Good (Cx old) p.1 p.2 := by
  simp only [tab2, List.forall_mem_cons]
  exact ⟨g25 old, g26 old, g27 old, g28 old, g29 old, g30 old, g31 old, g32 old, g33 old, g34 old, fun _ h => by cases h⟩
theorem all3 (old : Old) : ∀ p ∈ tab3, Good (Cx old) p.1 p.2 := by
  simp only [tab3, List.forall_mem_cons]
  exact ⟨g35 old, g36 old, g37 old, g38 old, g39 old, g40 old, g43 old, g44 old, g45 old, g47 old, fun _ h => by cases h⟩
theorem all4 (old : Old) : ∀ p ∈ tab4, Good (Cx old) p.1 p.2 := by
  simp only [tab4, List.forall_mem_cons]
  exact ⟨g48 old, g49 old, g50 old, g51 old, g52 old, g53 old, g54 old, g55 old, g56 old, g57 old, fun _ h => by cases h⟩
theorem all5 (old : Old) : ∀ p ∈ tab5, Good (Cx old) p.1 p.2 := by
  simp only [tab5, List.forall_mem_cons]
  exact ⟨g61 old, g66 old, g68 old, g69 old, g70 old, g74 old, g75 old, g62 old, g63 old, g65 old, fun _ h => by cases h⟩
theorem all6 (old : Old) : ∀ p ∈ tab6, Good (Cx old) p.1 p.2 := by
  simp only [tab6, List.forall_mem_cons]
  exact ⟨g76 old, fun _ h => by cases h⟩
theorem all (old : Old) : ∀ l ∈ tabs, ∀ p ∈ l, Good (Cx old) p.1 p.2 := by
  simp only [tabs, List.forall_mem_cons]
  exact ⟨all0 old, all1 old, all2 old, all3 old, all4 old, all5 old, all6 old, fun _ h => by cases h⟩
theorem mixed : Tryd.prog.follows .mixedOrders = true := by kernel_rfl
theorem liesOk (old : Old) : LiesOk Tryd.prog (Cx old) := by
  intro e n off u h
  dsimp only [Cx] at h
  exact h
theorem methOk (old : Old) (ty : TypeId) (name : String) : (Cx old).meth ty name = none := by dsimp only [Cx]
theorem Tx (old : Old) (f : FuncId) : (Cx old).T f = look2 tabs f := by dsimp only [Cx]
theorem t4 (old : Old) : (Cx old).T 4 = some (.fn a4) := rfl
theorem t5 (old : Old) : (Cx old).T 5 = some (.fn a5) := rfl
theorem t7 (old : Old) : (Cx old).T 7 = some (.fn a7) := rfl
theorem t8 (old : Old) : (Cx old).T 8 = some (.fn a8) := rfl
theorem t9 (old : Old) : (Cx old).T 9 = some (.fn a9) := rfl
theorem t10 (old : Old) : (Cx old).T 10 = some (.fn a10) := rfl
theorem t11 (old : Old) : (Cx old).T 11 = some (.fn a11) := rfl
theorem t12 (old : Old) : (Cx old).T 12 = some (.fn a12) := rfl
theorem t13 (old : Old) : (Cx old).T 13 = some (.fn a13) := rfl
theorem t14 (old : Old) : (Cx old).T 14 = some (.fn a14) := rfl
theorem t15 (old : Old) : (Cx old).T 15 = some (.fn a15) := rfl
theorem t16 (old : Old) : (Cx old).T 16 = some (.fn a16) := rfl
theorem t17 (old : Old) : (Cx old).T 17 = some (.fn a17) := rfl
theorem t18 (old : Old) : (Cx old).T 18 = some (.fn a18) := rfl
theorem t19 (old : Old) : (Cx old).T 19 = some (.fn a19) := rfl
theorem t20 (old : Old) : (Cx old).T 20 = some (.fn a20) := rfl
theorem t21 (old : Old) : (Cx old).T 21 = some (.fn a21) := rfl
theorem t22 (old : Old) : (Cx old).T 22 = some (.fn a22) := rfl
theorem t23 (old : Old) : (Cx old).T 23 = some (.fn a23) := rfl
theorem t24 (old : Old) : (Cx old).T 24 = some (.fn a24) := rfl
theorem t25 (old : Old) : (Cx old).T 25 = some (.fn a25) := rfl
theorem t26 (old : Old) : (Cx old).T 26 = some (.fn a26) := rfl
theorem t27 (old : Old) : (Cx old).T 27 = some (.fn a27) := rfl
theorem t28 (old : Old) : (Cx old).T 28 = some (.fn a28) := rfl
theorem t29 (old : Old) : (Cx old).T 29 = some (.fn a29) := rfl
theorem t30 (old : Old) : (Cx old).T 30 = some (.fn a30) := rfl
theorem t31 (old : Old) : (Cx old).T 31 = some (.fn a31) := rfl
theorem t32 (old : Old) : (Cx old).T 32 = some (.fn a32) := rfl
theorem t33 (old : Old) : (Cx old).T 33 = some (.fn a33) := rfl
theorem t34 (old : Old) : (Cx old).T 34 = some (.fn a34) := rfl
theorem t35 (old : Old) : (Cx old).T 35 = some (.fn a35) := rfl
theorem t36 (old : Old) : (Cx old).T 36 = some (.fn a36) := rfl
theorem t37 (old : Old) : (Cx old).T 37 = some (.fn a37) := rfl
theorem t38 (old : Old) : (Cx old).T 38 = some (.fn a38) := rfl
theorem t39 (old : Old) : (Cx old).T 39 = some (.fn a39) := rfl
theorem t40 (old : Old) : (Cx old).T 40 = some (.fn a40) := rfl
theorem t43 (old : Old) : (Cx old).T 43 = some (.fn a43) := rfl
theorem t44 (old : Old) : (Cx old).T 44 = some (.fn a44) := rfl
theorem t45 (old : Old) : (Cx old).T 45 = some (.fn a45) := rfl
theorem t47 (old : Old) : (Cx old).T 47 = some (.fn a47) := rfl
theorem t48 (old : Old) : (Cx old).T 48 = some (.fn a48) := rfl
theorem t49 (old : Old) : (Cx old).T 49 = some (.fn a49) := rfl
theorem t50 (old : Old) : (Cx old).T 50 = some (.fn a50) := rfl
theorem t51 (old : Old) : (Cx old).T 51 = some (.fn a51) := rfl
theorem t52 (old : Old) : (Cx old).T 52 = some (.fn a52) := rfl
theorem t53 (old : Old) : (Cx old).T 53 = some (.fn a53) := rfl
theorem t54 (old : Old) : (Cx old).T 54 = some (.fn a54) := rfl
theorem t55 (old : Old) : (Cx old).T 55 = some (.fn a55) := rfl
theorem t56 (old : Old) : (Cx old).T 56 = some (.fn a56) := rfl
theorem t57 (old : Old) : (Cx old).T 57 = some (.fn a57) := rfl
theorem t61 (old : Old) : (Cx old).T 61 = some (.fn a61) := rfl
theorem t66 (old : Old) : (Cx old).T 66 = some (.fn a66) := rfl
theorem t68 (old : Old) : (Cx old).T 68 = some (.fn a68) := rfl
theorem t69 (old : Old) : (Cx old).T 69 = some (.fn a69) := rfl
theorem t70 (old : Old) : (Cx old).T 70 = some (.fn a70) := rfl
theorem t74 (old : Old) : (Cx old).T 74 = some (.fn a74) := rfl
theorem t75 (old : Old) : (Cx old).T 75 = some (.fn a75) := rfl
theorem t62 (old : Old) : (Cx old).T 62 = some (.ext .noEscape) := rfl
theorem t63 (old : Old) : (Cx old).T 63 = some (.ext (.makeNoZero 5)) := rfl
theorem t65 (old : Old) : (Cx old).T 65 = some (.ext .countStr) := rfl
theorem t76 (old : Old) : (Cx old).T 76 = some (.ext .indexByteStr) := rfl
theorem T_LStr (old : Old) : Tab_LStr (Cx old) where
  h28 := t28 old
  h29 := t29 old
  h30 := t30 old
  h31 := t31 old
  h33 := t33 old
  h44 := t44 old
  h45 := t45 old
  h49 := t49 old
  h54 := t54 old
  h66 := t66 old
  h75 := t75 old
  h57 := t57 old
  h70 := t70 old
  h61 := t61 old
  h43 := t43 old
  h53 := t53 old
  h69 := t69 old
  h55 := t55 old
  h48 := t48 old
  h47 := t47 old
  h38 := t38 old
  h24 := t24 old
  h39 := t39 old
  h56 := t56 old
  h74 := t74 old
  h20 := t20 old
  h32 := t32 old
  h19 := t19 old
  h37 := t37 old
  h52 := t52 old
  h68 := t68 old
  h35 := t35 old
  h51 := t51 old
  h26 := t26 old
  x62 := t62 old
  x63 := t63 old
  x65 := t65 old
  x76 := t76 old
theorem T_LWir (old : Old) : Tab_LWir (Cx old) where
  h27 := t27 old
  h50 := t50 old
  h34 := t34 old
  h21 := t21 old
  h18 := t18 old
  h22 := t22 old
  h36 := t36 old
  h23 := t23 old
  h40 := t40 old
  h25 := t25 old
  h12 := t12 old
  h10 := t10 old
  h16 := t16 old
  h15 := t15 old
  h17 := t17 old
  h8 := t8 old
  h9 := t9 old
  h11 := t11 old
  h13 := t13 old
  h14 := t14 old
theorem T_LBack (old : Old) : Tab_LBack (Cx old) where
  h4 := t4 old
  h5 := t5 old
  h7 := t7 old
theorem pureOk (old : Old) : ∀ f, md f = true → ∃ fn, (Cx old).T f = some (.fn fn) ∧ 2 ≤ fn.mode := by
  intro f hf
  have : f = 5 ∨ f = 7 ∨ f = 8 ∨ f = 9 ∨ f = 10 ∨ f = 13 ∨ f = 14 ∨ f = 15 ∨ f = 16 ∨ f = 17 ∨ f = 18 ∨ f = 19 ∨ f = 21 ∨ f = 22 ∨ f = 23 ∨ f = 24 ∨ f = 26 ∨ f = 27 ∨ f = 34 ∨ f = 35 ∨ f = 36 ∨ f = 37 ∨ f = 38 ∨ f = 39 ∨ f = 43 ∨ f = 47 ∨ f = 48 ∨ f = 50 ∨ f = 51 ∨ f = 52 ∨ f = 53 ∨ f = 55 ∨ f = 56 ∨ f = 57 ∨ f = 61 ∨ f = 68 ∨ f = 69 ∨ f = 70 ∨ f = 74 ∨ f = 75 := by simpa [md] using hf
  rcases this with rfl | rfl | rfl | rfl | rfl | rfl | rfl | rfl | rfl | rfl | rfl | rfl | rfl | rfl | rfl | rfl | rfl | rfl | rfl | rfl | rfl | rfl | rfl | rfl | rfl | rfl | rfl | rfl | rfl | rfl | rfl | rfl | rfl | rfl | rfl | rfl | rfl | rfl | rfl | rfl
  · exact ⟨a5, t5 old, by decide⟩
  · exact ⟨a7, t7 old, by decide⟩
  · exact ⟨a8, t8 old, by decide⟩
  · exact ⟨a9, t9 old, by decide⟩
  · exact ⟨a10, t10 old, by decide⟩
  · exact ⟨a13, t13 old, by decide⟩
  · exact ⟨a14, t14 old, by decide⟩
  · exact ⟨a15, t15 old, by decide⟩
  · exact ⟨a16, t16 old, by decide⟩
  · exact ⟨a17, t17 old, by decide⟩
  · exact ⟨a18, t18 old, by decide⟩
  · exact ⟨a19, t19 old, by decide⟩
  · exact ⟨a21, t21 old, by decide⟩
  · exact ⟨a22, t22 old, by decide⟩
  · exact ⟨a23, t23 old, by decide⟩
  · exact ⟨a24, t24 old, by decide⟩
  · exact ⟨a26, t26 old, by decide⟩
  · exact ⟨a27, t27 old, by decide⟩
  · exact ⟨a34, t34 old, by decide⟩
  · exact ⟨a35, t35 old, by decide⟩
  · exact ⟨a36, t36 old, by decide⟩
  · exact ⟨a37, t37 old, by decide⟩
  · exact ⟨a38, t38 old, by decide⟩
  · exact ⟨a39, t39 old, by decide⟩
  · exact ⟨a43, t43 old, by decide⟩
  · exact ⟨a47, t47 old, by decide⟩
  · exact ⟨a48, t48 old, by decide⟩
  · exact ⟨a50, t50 old, by decide⟩
  · exact ⟨a51, t51 old, by decide⟩
  · exact ⟨a52, t52 old, by decide⟩
  · exact ⟨a53, t53 old, by decide⟩
  · exact ⟨a55, t55 old, by decide⟩
  · exact ⟨a56, t56 old, by decide⟩
  · exact ⟨a57, t57 old, by decide⟩
  · exact ⟨a61, t61 old, by decide⟩
  · exact ⟨a68, t68 old, by decide⟩
  · exact ⟨a69, t69 old, by decide⟩
  · exact ⟨a70, t70 old, by decide⟩
  · exact ⟨a74, t74 old, by decide⟩
  · exact ⟨a75, t75 old, by decide⟩
theorem freeY (old : Old) : (Cx old).T fYield = none := rfl
theorem freeT (old : Old) : (Cx old).T fTake = none := rfl
theorem envOk (W : World) : Env Tryd.prog md (Cx (oldOf W)) W where
  cc := fun _ _ => rfl
  free := ⟨freeY _, freeT _⟩
  mlim := fun ty name f h => by rw [methOk] at h; cases h
  hold := oldOf_ok W
  lies := liesOk _
  mix := mixed
  fn := fun f fn h => look2_all (Q := Good (Cx (oldOf W))) (all _) (v := .fn fn) (by rw [← Tx (oldOf W)]; exact h)
  ext := fun f e h => look2_all (Q := Good (Cx (oldOf W))) (all _) (v := .ext e) (by rw [← Tx (oldOf W)]; exact h)
  meth := fun ty name f h => by rw [methOk] at h; cases h
  pure := pureOk _
end Go.Proofs.YtbcadgoemkjbeaaDoor.wb

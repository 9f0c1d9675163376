/-
  The proof of AuditStandsCardSaid in the program's model; no condition beside the card's own.
-/
import Derived.Test.YtecbgdnoblhldaaGreatDoorAuD
import Derived.Test.YtecbgdnoblhldaaGreatDoorLit
import Derived.Test.YtecbgdnoblhldaaGreatDoorAbD
import Derived.Test.YtecbgdnoblhldaaGreatDoorAbC

set_option linter.unusedSimpArgs false
set_option linter.unusedVariables false
set_option linter.unusedSectionVars false

namespace Go.Proofs.YtecbgdnoblhldaaGreatDoor.sd
open Go Go.Ab Go.Ab.Aud Go.Sha
set_option maxRecDepth 100000
def md (f : FuncId) : Bool := [12, 14, 17, 20, 23, 29, 31, 33, 39, 56, 57, 63, 68, 106, 107, 147, 157, 216, 217, 230, 253].contains f
def findRF : Code → List (Code × Code)
  | .rangeFunc _ _ a b => [(a, b)]
  | .seq a b => findRF a ++ findRF b
  | .cond _ a b => findRF a ++ findRF b
  | .block _ b => findRF b
  | .loop b => findRF b
  | .scope b => findRF b
  | _ => []
def rfOf (F : Func) (j : Nat) : Code × Code := match F.body with
  | some c => (findRF c).getD j (.skip, .skip)
  | none => (.skip, .skip)
noncomputable def x49A0 : Code := (rfOf Tryz.f49 0).1
noncomputable def x49B0 : Code := (rfOf Tryz.f49 0).2
noncomputable def tab0 : List (Nat × AFunc) := [(9, .fn a9), (11, .fn a11), (12, .fn a12), (14, .fn a14), (17, .fn a17), (20, .fn a20), (23, .fn a23), (24, .fn a24), (25, .fn a25), (26, .fn a26)]
noncomputable def tab1 : List (Nat × AFunc) := [(27, .fn a27), (28, .fn a28), (29, .fn a29), (30, .fn a30), (31, .fn a31), (33, .fn a33), (34, .fn a34), (35, .fn a35), (39, .fn a39), (42, .fn a42)]
noncomputable def tab2 : List (Nat × AFunc) := [(43, .fn a43), (44, .fn a44), (45, .fn a45), (46, .fn a46), (47, .fn a47), (48, .fn a48), (53, .fn a53), (56, .fn a56), (57, .fn a57), (61, .fn a61)]
noncomputable def tab3 : List (Nat × AFunc) := [(62, .fn a62), (63, .fn a63), (67, .fn a67), (68, .fn a68), (69, .fn a69), (70, .fn a70), (71, .fn a71), (72, .fn a72), (74, .fn a74), (75, .fn a75)]
noncomputable def tab4 : List (Nat × AFunc) := [(84, .fn a84), (85, .fn a85), (86, .fn a86), (87, .fn a87), (88, .fn a88), (93, .fn a93), (106, .fn a106), (107, .fn a107), (108, .fn a108), (109, .fn a109)]
noncomputable def tab5 : List (Nat × AFunc) := [(112, .fn a112), (113, .fn a113), (114, .fn a114), (115, .fn a115), (147, .fn a147), (148, .fn a148), (149, .fn a149), (150, .fn a150), (151, .fn a151), (152, .fn a152)]
noncomputable def tab6 : List (Nat × AFunc) := [(153, .fn a153), (157, .fn a157), (158, .fn a158), (159, .fn a159), (160, .fn a160), (161, .fn a161), (180, .fn a180), (215, .fn a215), (216, .fn a216), (217, .fn a217)]
noncomputable def tab7 : List (Nat × AFunc) := [(218, .fn a218), (219, .fn a219), (230, .fn a230), (240, .fn a240), (241, .fn a241), (242, .fn a242), (245, .fn a245), (253, .fn a253), (254, .fn a254), (49, .fn (a49 x49A0 x49B0))]
noncomputable def tab8 : List (Nat × AFunc) := [(184, .ext (.nop 0)), (185, .ext .cas32), (186, .ext (.nop 0)), (187, .ext (.nop 1)), (189, .ext (.nop 1)), (190, .ext .add32)]
noncomputable def tabs : List (List (Nat × AFunc)) := [tab0, tab1, tab2, tab3, tab4, tab5, tab6, tab7, tab8]
def look : List (Nat × AFunc) → Nat → Option AFunc
  | [], _ => none
  | (k, v) :: r, f => if k = f then some v else look r f
def look2 : List (List (Nat × AFunc)) → Nat → Option AFunc
  | [], _ => none
  | l :: r, f => match look l f with
    | some v => some v
    | none => look2 r f
noncomputable def Cx (old : Old) : Ctx := { old, T := look2 tabs, cc := fun n c => cRound Tryz.prog md n c, meth := fun _ _ => none, lies := fun e n off u => liesAt Tryz.prog Tryz.prog.depth e (n / Tryz.prog.cellsOf e) off u 1 }
def Good (C : Ctx) (f : FuncId) : AFunc → Prop
  | .fn fn => ∃ F, Tryz.prog.funcs[f]? = some F ∧ cFn Tryz.prog md F fn.mode = some fn
  | .ext e => ∀ w1, OldOk C.old w1 → ExtOk Tryz.prog w1 C f e
theorem g9 (old : Old) : Good (Cx old) 9 (.fn a9) := ⟨Tryz.f9, Tryz.func9, by kernel_rfl⟩
theorem g11 (old : Old) : Good (Cx old) 11 (.fn a11) := ⟨Tryz.f11, Tryz.func11, by kernel_rfl⟩
theorem g12 (old : Old) : Good (Cx old) 12 (.fn a12) := ⟨Tryz.f12, Tryz.func12, by kernel_rfl⟩
theorem g14 (old : Old) : Good (Cx old) 14 (.fn a14) := ⟨Tryz.f14, Tryz.func14, by kernel_rfl⟩
theorem g17 (old : Old) : Good (Cx old) 17 (.fn a17) := ⟨Tryz.f17, Tryz.func17, by kernel_rfl⟩
theorem g20 (old : Old) : Good (Cx old) 20 (.fn a20) := ⟨Tryz.f20, Tryz.func20, by kernel_rfl⟩
theorem g23 (old : Old) : Good (Cx old) 23 (.fn a23) := ⟨Tryz.f23, Tryz.func23, by kernel_rfl⟩
theorem g24 (old : Old) : Good (Cx old) 24 (.fn a24) := ⟨Tryz.f24, Tryz.func24, by kernel_rfl⟩
theorem g25 (old : Old) : Good (Cx old) 25 (.fn a25) := ⟨Tryz.f25, Tryz.func25, by kernel_rfl⟩
theorem g26 (old : Old) : Good (Cx old) 26 (.fn a26) := ⟨Tryz.f26, Tryz.func26, by kernel_rfl⟩
theorem g27 (old : Old) : Good (Cx old) 27 (.fn a27) := ⟨Tryz.f27, Tryz.func27, by kernel_rfl⟩
theorem g28 (old : Old) : Good (Cx old) 28 (.fn a28) := ⟨Tryz.f28, Tryz.func28, by kernel_rfl⟩
theorem g29 (old : Old) : Good (Cx old) 29 (.fn a29) := ⟨Tryz.f29, Tryz.func29, by kernel_rfl⟩
theorem g30 (old : Old) : Good (Cx old) 30 (.fn a30) := ⟨Tryz.f30, Tryz.func30, by kernel_rfl⟩
theorem g31 (old : Old) : Good (Cx old) 31 (.fn a31) := ⟨Tryz.f31, Tryz.func31, by kernel_rfl⟩
theorem g33 (old : Old) : Good (Cx old) 33 (.fn a33) := ⟨Tryz.f33, Tryz.func33, by kernel_rfl⟩
theorem g34 (old : Old) : Good (Cx old) 34 (.fn a34) := ⟨Tryz.f34, Tryz.func34, by kernel_rfl⟩
theorem g35 (old : Old) : Good (Cx old) 35 (.fn a35) := ⟨Tryz.f35, Tryz.func35, by kernel_rfl⟩
theorem g39 (old : Old) : Good (Cx old) 39 (.fn a39) := ⟨Tryz.f39, Tryz.func39, by kernel_rfl⟩
theorem g42 (old : Old) : Good (Cx old) 42 (.fn a42) := ⟨Tryz.f42, Tryz.func42, by kernel_rfl⟩
theorem g43 (old : Old) : Good (Cx old) 43 (.fn a43) := ⟨Tryz.f43, Tryz.func43, by kernel_rfl⟩
theorem g44 (old : Old) : Good (Cx old) 44 (.fn a44) := ⟨Tryz.f44, Tryz.func44, by kernel_rfl⟩
theorem g45 (old : Old) : Good (Cx old) 45 (.fn a45) := ⟨Tryz.f45, Tryz.func45, by kernel_rfl⟩
theorem g46 (old : Old) : Good (Cx old) 46 (.fn a46) := ⟨Tryz.f46, Tryz.func46, by kernel_rfl⟩
theorem g47 (old : Old) : Good (Cx old) 47 (.fn a47) := ⟨Tryz.f47, Tryz.func47, by kernel_rfl⟩
theorem g48 (old : Old) : Good (Cx old) 48 (.fn a48) := ⟨Tryz.f48, Tryz.func48, by kernel_rfl⟩
theorem g53 (old : Old) : Good (Cx old) 53 (.fn a53) := ⟨Tryz.f53, Tryz.func53, by kernel_rfl⟩
theorem g56 (old : Old) : Good (Cx old) 56 (.fn a56) := ⟨Tryz.f56, Tryz.func56, by kernel_rfl⟩
theorem g57 (old : Old) : Good (Cx old) 57 (.fn a57) := ⟨Tryz.f57, Tryz.func57, by kernel_rfl⟩
theorem g61 (old : Old) : Good (Cx old) 61 (.fn a61) := ⟨Tryz.f61, Tryz.func61, by kernel_rfl⟩
theorem g62 (old : Old) : Good (Cx old) 62 (.fn a62) := ⟨Tryz.f62, Tryz.func62, by kernel_rfl⟩
theorem g63 (old : Old) : Good (Cx old) 63 (.fn a63) := ⟨Tryz.f63, Tryz.func63, by kernel_rfl⟩
theorem g67 (old : Old) : Good (Cx old) 67 (.fn a67) := ⟨Tryz.f67, Tryz.func67, by kernel_rfl⟩
theorem g68 (old : Old) : Good (Cx old) 68 (.fn a68) := ⟨Tryz.f68, Tryz.func68, by kernel_rfl⟩
theorem g69 (old : Old) : Good (Cx old) 69 (.fn a69) := ⟨Tryz.f69, Tryz.func69, by kernel_rfl⟩
theorem g70 (old : Old) : Good (Cx old) 70 (.fn a70) := ⟨Tryz.f70, Tryz.func70, by kernel_rfl⟩
theorem g71 (old : Old) : Good (Cx old) 71 (.fn a71) := ⟨Tryz.f71, Tryz.func71, by kernel_rfl⟩
theorem g72 (old : Old) : Good (Cx old) 72 (.fn a72) := ⟨Tryz.f72, Tryz.func72, by kernel_rfl⟩
theorem g74 (old : Old) : Good (Cx old) 74 (.fn a74) := ⟨Tryz.f74, Tryz.func74, by kernel_rfl⟩
theorem g75 (old : Old) : Good (Cx old) 75 (.fn a75) := ⟨Tryz.f75, Tryz.func75, by kernel_rfl⟩
theorem g84 (old : Old) : Good (Cx old) 84 (.fn a84) := ⟨Tryz.f84, Tryz.func84, by kernel_rfl⟩
theorem g85 (old : Old) : Good (Cx old) 85 (.fn a85) := ⟨Tryz.f85, Tryz.func85, by kernel_rfl⟩
theorem g86 (old : Old) : Good (Cx old) 86 (.fn a86) := ⟨Tryz.f86, Tryz.func86, by kernel_rfl⟩
theorem g87 (old : Old) : Good (Cx old) 87 (.fn a87) := ⟨Tryz.f87, Tryz.func87, by kernel_rfl⟩
theorem g88 (old : Old) : Good (Cx old) 88 (.fn a88) := ⟨Tryz.f88, Tryz.func88, by kernel_rfl⟩
theorem g93 (old : Old) : Good (Cx old) 93 (.fn a93) := ⟨Tryz.f93, Tryz.func93, by kernel_rfl⟩
theorem g106 (old : Old) : Good (Cx old) 106 (.fn a106) := ⟨Tryz.f106, Tryz.func106, by kernel_rfl⟩
theorem g107 (old : Old) : Good (Cx old) 107 (.fn a107) := ⟨Tryz.f107, Tryz.func107, by kernel_rfl⟩
theorem g108 (old : Old) : Good (Cx old) 108 (.fn a108) := ⟨Tryz.f108, Tryz.func108, by kernel_rfl⟩
theorem g109 (old : Old) : Good (Cx old) 109 (.fn a109) := ⟨Tryz.f109, Tryz.func109, by kernel_rfl⟩
theorem g112 (old : Old) : Good (Cx old) 112 (.fn a112) := ⟨Tryz.f112, Tryz.func112, by kernel_rfl⟩
theorem g113 (old : Old) : Good (Cx old) 113 (.fn a113) := ⟨Tryz.f113, Tryz.func113, by kernel_rfl⟩
theorem g114 (old : Old) : Good (Cx old) 114 (.fn a114) := ⟨Tryz.f114, Tryz.func114, by kernel_rfl⟩
theorem g115 (old : Old) : Good (Cx old) 115 (.fn a115) := ⟨Tryz.f115, Tryz.func115, by kernel_rfl⟩
theorem g147 (old : Old) : Good (Cx old) 147 (.fn a147) := ⟨Tryz.f147, Tryz.func147, by kernel_rfl⟩
theorem g148 (old : Old) : Good (Cx old) 148 (.fn a148) := ⟨Tryz.f148, Tryz.func148, by kernel_rfl⟩
theorem g149 (old : Old) : Good (Cx old) 149 (.fn a149) := ⟨Tryz.f149, Tryz.func149, by kernel_rfl⟩
theorem g150 (old : Old) : Good (Cx old) 150 (.fn a150) := ⟨Tryz.f150, Tryz.func150, by kernel_rfl⟩
theorem g151 (old : Old) : Good (Cx old) 151 (.fn a151) := ⟨Tryz.f151, Tryz.func151, by kernel_rfl⟩
theorem g152 (old : Old) : Good (Cx old) 152 (.fn a152) := ⟨Tryz.f152, Tryz.func152, by kernel_rfl⟩
theorem g153 (old : Old) : Good (Cx old) 153 (.fn a153) := ⟨Tryz.f153, Tryz.func153, by kernel_rfl⟩
theorem g157 (old : Old) : Good (Cx old) 157 (.fn a157) := ⟨Tryz.f157, Tryz.func157, by kernel_rfl⟩
theorem g158 (old : Old) : Good (Cx old) 158 (.fn a158) := ⟨Tryz.f158, Tryz.func158, by kernel_rfl⟩
theorem g159 (old : Old) : Good (Cx old) 159 (.fn a159) := ⟨Tryz.f159, Tryz.func159, by kernel_rfl⟩
theorem g160 (old : Old) : Good (Cx old) 160 (.fn a160) := ⟨Tryz.f160, Tryz.func160, by kernel_rfl⟩
theorem g161 (old : Old) : Good (Cx old) 161 (.fn a161) := ⟨Tryz.f161, Tryz.func161, by kernel_rfl⟩
theorem g180 (old : Old) : Good (Cx old) 180 (.fn a180) := ⟨Tryz.f180, Tryz.func180, by kernel_rfl⟩
theorem g215 (old : Old) : Good (Cx old) 215 (.fn a215) := ⟨Tryz.f215, Tryz.func215, by kernel_rfl⟩
theorem g216 (old : Old) : Good (Cx old) 216 (.fn a216) := ⟨Tryz.f216, Tryz.func216, by kernel_rfl⟩
theorem g217 (old : Old) : Good (Cx old) 217 (.fn a217) := ⟨Tryz.f217, Tryz.func217, by kernel_rfl⟩
theorem g218 (old : Old) : Good (Cx old) 218 (.fn a218) := ⟨Tryz.f218, Tryz.func218, by kernel_rfl⟩
theorem g219 (old : Old) : Good (Cx old) 219 (.fn a219) := ⟨Tryz.f219, Tryz.func219, by kernel_rfl⟩
theorem g230 (old : Old) : Good (Cx old) 230 (.fn a230) := ⟨Tryz.f230, Tryz.func230, by kernel_rfl⟩
theorem g240 (old : Old) : Good (Cx old) 240 (.fn a240) := ⟨Tryz.f240, Tryz.func240, by kernel_rfl⟩
theorem g241 (old : Old) : Good (Cx old) 241 (.fn a241) := ⟨Tryz.f241, Tryz.func241, by kernel_rfl⟩
theorem g242 (old : Old) : Good (Cx old) 242 (.fn a242) := ⟨Tryz.f242, Tryz.func242, by kernel_rfl⟩
theorem g245 (old : Old) : Good (Cx old) 245 (.fn a245) := ⟨Tryz.f245, Tryz.func245, by kernel_rfl⟩
theorem g253 (old : Old) : Good (Cx old) 253 (.fn a253) := ⟨Tryz.f253, Tryz.func253, by kernel_rfl⟩
theorem g254 (old : Old) : Good (Cx old) 254 (.fn a254) := ⟨Tryz.f254, Tryz.func254, by kernel_rfl⟩
theorem g49 (old : Old) : Good (Cx old) 49 (.fn (a49 x49A0 x49B0)) := ⟨Tryz.f49, Tryz.func49, by kernel_rfl⟩
theorem g184 (old : Old) : Good (Cx old) 184 (.ext (.nop 0)) := fun _ hold => by
  have _ := hold
  exact ext_nop0 (k := .disable) (F := Tryz.f184) ⟨Tryz.func184, by kernel_rfl, by kernel_rfl, by kernel_rfl, by kernel_rfl⟩
theorem g185 (old : Old) : Good (Cx old) 185 (.ext (.cas32)) := fun _ hold => by
  have _ := hold
  exact ext_cas32 hold (F := Tryz.f185) ⟨Tryz.func185, by kernel_rfl, by kernel_rfl, by kernel_rfl, by kernel_rfl⟩
theorem g186 (old : Old) : Good (Cx old) 186 (.ext (.nop 0)) := fun _ hold => by
  have _ := hold
  exact ext_nop0 (k := .enable) (F := Tryz.f186) ⟨Tryz.func186, by kernel_rfl, by kernel_rfl, by kernel_rfl, by kernel_rfl⟩
theorem g187 (old : Old) : Good (Cx old) 187 (.ext (.nop 1)) := fun _ hold => by
  have _ := hold
  exact ext_nop1 (k := .acquire) (F := Tryz.f187) ⟨Tryz.func187, by kernel_rfl, by kernel_rfl, by kernel_rfl, by kernel_rfl⟩
theorem g189 (old : Old) : Good (Cx old) 189 (.ext (.nop 1)) := fun _ hold => by
  have _ := hold
  exact ext_nop1 (k := .releaseMerge) (F := Tryz.f189) ⟨Tryz.func189, by kernel_rfl, by kernel_rfl, by kernel_rfl, by kernel_rfl⟩
theorem g190 (old : Old) : Good (Cx old) 190 (.ext (.add32)) := fun _ hold => by
  have _ := hold
  exact ext_add32 hold (F := Tryz.f190) ⟨Tryz.func190, by kernel_rfl, by kernel_rfl, by kernel_rfl, by kernel_rfl⟩
theorem look_all {Q : FuncId → AFunc → Prop} : ∀ {l : List (Nat × AFunc)}, (∀ p ∈ l, Q p.1 p.2) → ∀ {f v}, look l f = some v → Q f v
  | [], _, f, v, h => by cases h
  | (k, x) :: r, hq, f, v, h => by
    simp only [look] at h
    split at h
    · rename_i hk
      cases h
      subst hk
      exact hq (k, x) (by simp)
    · exact look_all (fun p hp => hq p (by simp [hp])) h
theorem look2_all {Q : FuncId → AFunc → Prop} : ∀ {ls : List (List (Nat × AFunc))}, (∀ l ∈ ls, ∀ p ∈ l, Q p.1 p.2) → ∀ {f v}, look2 ls f = some v → Q f v
  | [], _, f, v, h => by cases h
  | l :: r, hq, f, v, h => by
    simp only [look2] at h
    split at h
    · rename_i x hx
      cases h
      exact look_all (hq l (by simp)) hx
    · exact look2_all (fun p hp => hq p (by simp [hp])) h
theorem all0 (old : Old) : ∀ p ∈ tab0, Good (Cx old) p.1 p.2 := by
  simp only [tab0, List.forall_mem_cons]
  exact ⟨g9 old, g11 old, g12 old, g14 old, g17 old, g20 old, g23 old, g24 old, g25 old, g26 old, fun _ h => by cases h⟩
theorem all1 (old : Old) : ∀ p ∈ tab1, Good (Cx old) p.1 p.2 := by
  simp only [tab1, List.forall_mem_cons]
  exact ⟨g27 old, g28 old, g29 old, g30 old, g31 old, g33 old, g34 old, g35 old, g39 old, g42 old, fun _ h => by cases h⟩
theorem all2 (old : Old) : ∀ p ∈ tab2, Good (Cx old) p.1 p.2 := by
  simp only [tab2, List.forall_mem_cons]
  exact ⟨g43 old, g44 old, g45 old, g46 old, g47 old, g48 old, g53 old, g56 old, g57 old, g61 old, fun _ h => by cases h⟩
theorem all3 (old : Old) : ∀ p ∈ tab3, Good (Cx old) p.1 p.2 := by
  simp only [tab3, List.forall_mem_cons]
  exact ⟨g62 old, g63 old, g67 old, g68 old, g69 old, g70 old, g71 old, g72 old, g74 old, g75 old, fun _ h => by cases h⟩
theorem all4 (old : Old) : ∀ p ∈ tab4, Good (Cx old) p.1 p.2 := by
  simp only [tab4, List.forall_mem_cons]
  exact ⟨g84 old, g85 old, g86 old, g87 old, g88 old, g93 old, g106 old, g107 old, g108 old, g109 old, fun _ h => by cases h⟩
theorem all5 (old : Old) : ∀ p ∈ tab5, Good (Cx old) p.1 p.2 := by
  simp only [tab5, List.forall_mem_cons]
  exact ⟨g112 old, g113 old, g114 old, g115 old, g147 old, g148 old, g149 old, g150 old, g151 old, g152 old, fun _ h => by cases h⟩
theorem all6 (old : Old) : ∀ p ∈ tab6, Good (Cx old) p.1 p.2 := by
  simp only [tab6, List.forall_mem_cons]
  exact ⟨g153 old, g157 old, g158 old, g159 old, g160 old, g161 old, g180 old, g215 old, g216 old, g217 old, fun _ h => by cases h⟩
theorem all7 (old : Old) : ∀ p ∈ tab7, Good (Cx old) p.1 p.2 := by
  simp only [tab7, List.forall_mem_cons]
  exact ⟨g218 old, g219 old, g230 old, g240 old, g241 old, g242 old, g245 old, g253 old, g254 old, g49 old, fun _ h => by cases h⟩
theorem all8 (old : Old) : ∀ p ∈ tab8, Good (Cx old) p.1 p.2 := by
  simp only [tab8, List.forall_mem_cons]
  exact ⟨g184 old, g185 old, g186 old, g187 old, g189 old, g190 old, fun _ h => by cases h⟩
theorem all (old : Old) : ∀ l ∈ tabs, ∀ p ∈ l, Good (Cx old) p.1 p.2 := by
  simp only [tabs, List.forall_mem_cons]
  exact ⟨all0 old, all1 old, all2 old, all3 old, all4 old, all5 old, all6 old, all7 old, all8 old, fun _ h => by cases h⟩
theorem mixed : Tryz.prog.follows .mixedOrders = true := by kernel_rfl
theorem liesOk (old : Old) : LiesOk Tryz.prog (Cx old) := by
  intro e n off u h
  dsimp only [Cx] at h
  exact h
theorem methOk (old : Old) (ty : TypeId) (name : String) : (Cx old).meth ty name = none := by dsimp only [Cx]
theorem Tx (old : Old) (f : FuncId) : (Cx old).T f = look2 tabs f := by dsimp only [Cx]
theorem t9 (old : Old) : (Cx old).T 9 = some (.fn a9) := rfl
theorem t11 (old : Old) : (Cx old).T 11 = some (.fn a11) := rfl
theorem t12 (old : Old) : (Cx old).T 12 = some (.fn a12) := rfl
theorem t14 (old : Old) : (Cx old).T 14 = some (.fn a14) := rfl
theorem t17 (old : Old) : (Cx old).T 17 = some (.fn a17) := rfl
theorem t20 (old : Old) : (Cx old).T 20 = some (.fn a20) := rfl
theorem t23 (old : Old) : (Cx old).T 23 = some (.fn a23) := rfl
theorem t24 (old : Old) : (Cx old).T 24 = some (.fn a24) := rfl
theorem t25 (old : Old) : (Cx old).T 25 = some (.fn a25) := rfl
theorem t26 (old : Old) : (Cx old).T 26 = some (.fn a26) := rfl
theorem t27 (old : Old) : (Cx old).T 27 = some (.fn a27) := rfl
theorem t28 (old : Old) : (Cx old).T 28 = some (.fn a28) := rfl
theorem t29 (old : Old) : (Cx old).T 29 = some (.fn a29) := rfl
theorem t30 (old : Old) : (Cx old).T 30 = some (.fn a30) := rfl
theorem t31 (old : Old) : (Cx old).T 31 = some (.fn a31) := rfl
theorem t33 (old : Old) : (Cx old).T 33 = some (.fn a33) := rfl
theorem t34 (old : Old) : (Cx old).T 34 = some (.fn a34) := rfl
theorem t35 (old : Old) : (Cx old).T 35 = some (.fn a35) := rfl
theorem t39 (old : Old) : (Cx old).T 39 = some (.fn a39) := rfl
theorem t42 (old : Old) : (Cx old).T 42 = some (.fn a42) := rfl
theorem t43 (old : Old) : (Cx old).T 43 = some (.fn a43) := rfl
theorem t44 (old : Old) : (Cx old).T 44 = some (.fn a44) := rfl
theorem t45 (old : Old) : (Cx old).T 45 = some (.fn a45) := rfl
theorem t46 (old : Old) : (Cx old).T 46 = some (.fn a46) := rfl
theorem t47 (old : Old) : (Cx old).T 47 = some (.fn a47) := rfl
theorem t48 (old : Old) : (Cx old).T 48 = some (.fn a48) := rfl
theorem t53 (old : Old) : (Cx old).T 53 = some (.fn a53) := rfl
theorem t56 (old : Old) : (Cx old).T 56 = some (.fn a56) := rfl
theorem t57 (old : Old) : (Cx old).T 57 = some (.fn a57) := rfl
theorem t61 (old : Old) : (Cx old).T 61 = some (.fn a61) := rfl
theorem t62 (old : Old) : (Cx old).T 62 = some (.fn a62) := rfl
theorem t63 (old : Old) : (Cx old).T 63 = some (.fn a63) := rfl
theorem t67 (old : Old) : (Cx old).T 67 = some (.fn a67) := rfl
theorem t68 (old : Old) : (Cx old).T 68 = some (.fn a68) := rfl
theorem t69 (old : Old) : (Cx old).T 69 = some (.fn a69) := rfl
theorem t70 (old : Old) : (Cx old).T 70 = some (.fn a70) := rfl
theorem t71 (old : Old) : (Cx old).T 71 = some (.fn a71) := rfl
theorem t72 (old : Old) : (Cx old).T 72 = some (.fn a72) := rfl
theorem t74 (old : Old) : (Cx old).T 74 = some (.fn a74) := rfl
theorem t75 (old : Old) : (Cx old).T 75 = some (.fn a75) := rfl
theorem t84 (old : Old) : (Cx old).T 84 = some (.fn a84) := rfl
theorem t85 (old : Old) : (Cx old).T 85 = some (.fn a85) := rfl
theorem t86 (old : Old) : (Cx old).T 86 = some (.fn a86) := rfl
theorem t87 (old : Old) : (Cx old).T 87 = some (.fn a87) := rfl
theorem t88 (old : Old) : (Cx old).T 88 = some (.fn a88) := rfl
theorem t93 (old : Old) : (Cx old).T 93 = some (.fn a93) := rfl
theorem t106 (old : Old) : (Cx old).T 106 = some (.fn a106) := rfl
theorem t107 (old : Old) : (Cx old).T 107 = some (.fn a107) := rfl
theorem t108 (old : Old) : (Cx old).T 108 = some (.fn a108) := rfl
theorem t109 (old : Old) : (Cx old).T 109 = some (.fn a109) := rfl
theorem t112 (old : Old) : (Cx old).T 112 = some (.fn a112) := rfl
theorem t113 (old : Old) : (Cx old).T 113 = some (.fn a113) := rfl
theorem t114 (old : Old) : (Cx old).T 114 = some (.fn a114) := rfl
theorem t115 (old : Old) : (Cx old).T 115 = some (.fn a115) := rfl
theorem t147 (old : Old) : (Cx old).T 147 = some (.fn a147) := rfl
theorem t148 (old : Old) : (Cx old).T 148 = some (.fn a148) := rfl
theorem t149 (old : Old) : (Cx old).T 149 = some (.fn a149) := rfl
theorem t150 (old : Old) : (Cx old).T 150 = some (.fn a150) := rfl
theorem t151 (old : Old) : (Cx old).T 151 = some (.fn a151) := rfl
theorem t152 (old : Old) : (Cx old).T 152 = some (.fn a152) := rfl
theorem t153 (old : Old) : (Cx old).T 153 = some (.fn a153) := rfl
theorem t157 (old : Old) : (Cx old).T 157 = some (.fn a157) := rfl
theorem t158 (old : Old) : (Cx old).T 158 = some (.fn a158) := rfl
theorem t159 (old : Old) : (Cx old).T 159 = some (.fn a159) := rfl
theorem t160 (old : Old) : (Cx old).T 160 = some (.fn a160) := rfl
theorem t161 (old : Old) : (Cx old).T 161 = some (.fn a161) := rfl
theorem t180 (old : Old) : (Cx old).T 180 = some (.fn a180) := rfl
theorem t216 (old : Old) : (Cx old).T 216 = some (.fn a216) := rfl
theorem t217 (old : Old) : (Cx old).T 217 = some (.fn a217) := rfl
theorem t218 (old : Old) : (Cx old).T 218 = some (.fn a218) := rfl
theorem t219 (old : Old) : (Cx old).T 219 = some (.fn a219) := rfl
theorem t230 (old : Old) : (Cx old).T 230 = some (.fn a230) := rfl
theorem t245 (old : Old) : (Cx old).T 245 = some (.fn a245) := rfl
theorem t253 (old : Old) : (Cx old).T 253 = some (.fn a253) := rfl
theorem t49 (old : Old) : (Cx old).T 49 = some (.fn (a49 x49A0 x49B0)) := rfl
theorem t184 (old : Old) : (Cx old).T 184 = some (.ext (.nop 0)) := rfl
theorem t185 (old : Old) : (Cx old).T 185 = some (.ext .cas32) := rfl
theorem t186 (old : Old) : (Cx old).T 186 = some (.ext (.nop 0)) := rfl
theorem t187 (old : Old) : (Cx old).T 187 = some (.ext (.nop 1)) := rfl
theorem t189 (old : Old) : (Cx old).T 189 = some (.ext (.nop 1)) := rfl
theorem t190 (old : Old) : (Cx old).T 190 = some (.ext .add32) := rfl
theorem cA49_0 (old : Old) : (Cx old).cc 44 x49A0 = ra49_0 := by kernel_rfl
theorem cB49_0 (old : Old) : (Cx old).cc 44 x49B0 = rb49_0 := by kernel_rfl
theorem T_LDig (old : Old) : Tab_LDig (Cx old) where
  h180 := t180 old
  h230 := t230 old
  h253 := t253 old
  h108 := t108 old
  h63 := t63 old
  h61 := t61 old
  h62 := t62 old
  h57 := t57 old
  h107 := t107 old
  h109 := t109 old
  h17 := t17 old
  h20 := t20 old
theorem T_LLog (old : Old) : Tab_LLog (Cx old) where
  h74 := t74 old
  h75 := t75 old
  h112 := t112 old
  h113 := t113 old
  h84 := t84 old
  h42 := t42 old
  h148 := t148 old
  h157 := t157 old
  h93 := t93 old
  h158 := t158 old
  h159 := t159 old
  h160 := t160 old
  h161 := t161 old
  h85 := t85 old
  h86 := t86 old
  h151 := t151 old
  h114 := t114 old
  h216 := t216 old
  h43 := t43 old
  h45 := t45 old
  h87 := t87 old
  h115 := t115 old
  h25 := t25 old
  h67 := t67 old
  h68 := t68 old
  h26 := t26 old
  h69 := t69 old
  h30 := t30 old
  h72 := t72 old
  h56 := t56 old
  h106 := t106 old
  h12 := t12 old
  h53 := t53 old
  h14 := t14 old
  h35 := t35 old
  h46 := t46 old
  x184 := t184 old
  x185 := t185 old
  x186 := t186 old
  x187 := t187 old
  x189 := t189 old
  x190 := t190 old
theorem T_LLaw (old : Old) : Tab_LLaw (Cx old) where
  h11 := t11 old
  h27 := t27 old
  h70 := t70 old
  h39 := t39 old
  h71 := t71 old
  h28 := t28 old
  h29 := t29 old
  h24 := t24 old
  h23 := t23 old
theorem T_LGrow (old : Old) : Tab_LGrow (Cx old) where
  h31 := t31 old
  h34 := t34 old
  h33 := t33 old
theorem T_LOpen (old : Old) : Tab_LOpen (Cx old) where
  h149 := t149 old
  h217 := t217 old
theorem T_LStan (old : Old) : Tab_LStan (Cx old) where
  h9 := t9 old
  h44 := t44 old
  h47 := t47 old
  h48 := t48 old
  h88 := t88 old
  h150 := t150 old
  h152 := t152 old
  h153 := t153 old
  h218 := t218 old
  h219 := t219 old
  h245 := t245 old
  h49 := ⟨x49A0, x49B0, t49 old, cA49_0 old, cB49_0 old⟩
theorem pureOk (old : Old) : ∀ f, md f = true → ∃ fn, (Cx old).T f = some (.fn fn) ∧ 2 ≤ fn.mode := by
  intro f hf
  have : f = 12 ∨ f = 14 ∨ f = 17 ∨ f = 20 ∨ f = 23 ∨ f = 29 ∨ f = 31 ∨ f = 33 ∨ f = 39 ∨ f = 56 ∨ f = 57 ∨ f = 63 ∨ f = 68 ∨ f = 106 ∨ f = 107 ∨ f = 147 ∨ f = 157 ∨ f = 216 ∨ f = 217 ∨ f = 230 ∨ f = 253 := by simpa [md] using hf
  rcases this with rfl | rfl | rfl | rfl | rfl | rfl | rfl | rfl | rfl | rfl | rfl | rfl | rfl | rfl | rfl | rfl | rfl | rfl | rfl | rfl | rfl
  · exact ⟨a12, t12 old, by decide⟩
  · exact ⟨a14, t14 old, by decide⟩
  · exact ⟨a17, t17 old, by decide⟩
  · exact ⟨a20, t20 old, by decide⟩
  · exact ⟨a23, t23 old, by decide⟩
  · exact ⟨a29, t29 old, by decide⟩
  · exact ⟨a31, t31 old, by decide⟩
  · exact ⟨a33, t33 old, by decide⟩
  · exact ⟨a39, t39 old, by decide⟩
  · exact ⟨a56, t56 old, by decide⟩
  · exact ⟨a57, t57 old, by decide⟩
  · exact ⟨a63, t63 old, by decide⟩
  · exact ⟨a68, t68 old, by decide⟩
  · exact ⟨a106, t106 old, by decide⟩
  · exact ⟨a107, t107 old, by decide⟩
  · exact ⟨a147, t147 old, by decide⟩
  · exact ⟨a157, t157 old, by decide⟩
  · exact ⟨a216, t216 old, by decide⟩
  · exact ⟨a217, t217 old, by decide⟩
  · exact ⟨a230, t230 old, by decide⟩
  · exact ⟨a253, t253 old, by decide⟩
theorem freeY (old : Old) : (Cx old).T fYield = none := rfl
theorem freeT (old : Old) : (Cx old).T fTake = none := rfl
theorem envOk (W : World) : Env Tryz.prog md (Cx (oldOf W)) W where
  cc := fun _ _ => rfl
  free := ⟨freeY _, freeT _⟩
  mlim := fun ty name f h => by rw [methOk] at h; cases h
  hold := oldOf_ok W
  lies := liesOk _
  mix := mixed
  fn := fun f fn h => look2_all (Q := Good (Cx (oldOf W))) (all _) (v := .fn fn) (by rw [← Tx (oldOf W)]; exact h)
  ext := fun f e h => look2_all (Q := Good (Cx (oldOf W))) (all _) (v := .ext e) (by rw [← Tx (oldOf W)]; exact h)
  meth := fun ty name f h => by rw [methOk] at h; cases h
  pure := pureOk _
end Go.Proofs.YtecbgdnoblhldaaGreatDoor.sd

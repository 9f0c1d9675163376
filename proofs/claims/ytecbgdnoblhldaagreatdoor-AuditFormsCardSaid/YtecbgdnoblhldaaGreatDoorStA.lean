/-
  The proof of AuditFormsCardSaid in the program's model; no condition beside the card's own.
-/
import Derived.Test.YtecbgdnoblhldaaGreatDoorAuD
import Derived.Test.YtecbgdnoblhldaaGreatDoorLit
import Derived.Test.YtecbgdnoblhldaaGreatDoorAbD
import Derived.Test.YtecbgdnoblhldaaGreatDoorAbC

set_option linter.unusedSimpArgs false
set_option linter.unusedVariables false
set_option linter.unusedSectionVars false

namespace Go.Proofs.YtecbgdnoblhldaaGreatDoor.fm
open Go Go.Ab Go.Ab.Aud Go.Sha
set_option maxRecDepth 100000
def md (f : FuncId) : Bool := [12, 13, 14, 15, 16, 17, 18, 20, 21, 22, 23, 29, 39, 54, 55, 56, 57, 58, 59, 60, 63, 64, 68, 105, 106, 107, 111, 147, 157, 181, 182, 183, 216, 230, 253].contains f
noncomputable def tab0 : List (Nat × AFunc) := [(3, .fn a3), (8, .fn a8), (11, .fn a11), (12, .fn a12), (13, .fn a13), (14, .fn a14), (15, .fn a15), (16, .fn a16), (17, .fn a17), (18, .fn a18)]
noncomputable def tab1 : List (Nat × AFunc) := [(19, .fn a19), (20, .fn a20), (21, .fn a21), (22, .fn a22), (23, .fn a23), (24, .fn a24), (25, .fn a25), (26, .fn a26), (27, .fn a27), (28, .fn a28)]
noncomputable def tab2 : List (Nat × AFunc) := [(29, .fn a29), (30, .fn a30), (35, .fn a35), (37, .fn a37), (38, .fn a38), (39, .fn a39), (40, .fn a40), (41, .fn a41), (42, .fn a42), (43, .fn a43)]
noncomputable def tab3 : List (Nat × AFunc) := [(45, .fn a45), (46, .fn a46), (53, .fn a53), (54, .fn a54), (55, .fn a55), (56, .fn a56), (57, .fn a57), (58, .fn a58), (59, .fn a59), (60, .fn a60)]
noncomputable def tab4 : List (Nat × AFunc) := [(61, .fn a61), (62, .fn a62), (63, .fn a63), (64, .fn a64), (65, .fn a65), (66, .fn a66), (67, .fn a67), (68, .fn a68), (69, .fn a69), (70, .fn a70)]
noncomputable def tab5 : List (Nat × AFunc) := [(71, .fn a71), (72, .fn a72), (74, .fn a74), (75, .fn a75), (76, .fn a76), (77, .fn a77), (78, .fn a78), (79, .fn a79), (80, .fn a80), (81, .fn a81)]
noncomputable def tab6 : List (Nat × AFunc) := [(82, .fn a82), (83, .fn a83), (84, .fn a84), (85, .fn a85), (86, .fn a86), (87, .fn a87), (93, .fn a93), (105, .fn a105), (106, .fn a106), (107, .fn a107)]
noncomputable def tab7 : List (Nat × AFunc) := [(108, .fn a108), (109, .fn a109), (110, .fn a110), (111, .fn a111), (112, .fn a112), (113, .fn a113), (114, .fn a114), (115, .fn a115), (116, .fn a116), (123, .fn a123)]
noncomputable def tab8 : List (Nat × AFunc) := [(147, .fn a147), (148, .fn a148), (151, .fn a151), (157, .fn a157), (158, .fn a158), (159, .fn a159), (160, .fn a160), (161, .fn a161), (180, .fn a180), (181, .fn a181)]
noncomputable def tab9 : List (Nat × AFunc) := [(182, .fn a182), (183, .fn a183), (215, .fn a215), (216, .fn a216), (230, .fn a230), (240, .fn a240), (241, .fn a241), (242, .fn a242), (253, .fn a253), (254, .fn a254)]
noncomputable def tab10 : List (Nat × AFunc) := [(117, .fn (eFn [(3, 0, 11, 6), (5, 4, 51, 9), (7, 8, 91, 12), (9, 12, 131, 15)] (rsE (cFn Tryz.prog md Tryz.f117 0)))), (118, .fn (eFn [(3, 0, 11, 18), (5, 4, 51, 21), (7, 8, 91, 24), (9, 12, 131, 27)] (rsE (cFn Tryz.prog md Tryz.f118 0)))), (119, .fn (eFn [(3, 0, 15, 30), (5, 4, 55, 33), (7, 8, 95, 36), (11, 12, 145, 39)] (rsE (cFn Tryz.prog md Tryz.f119 0)))), (120, .fn (eFn [(3, 0, 19, 42), (7, 4, 73, 45), (11, 8, 129, 48), (15, 12, 185, 51)] (rsE (cFn Tryz.prog md Tryz.f120 0)))), (121, .fn (eFn [(3, 0, 19, 54), (7, 4, 69, 57), (11, 8, 120, 60), (15, 12, 170, 63)] (rsE (cFn Tryz.prog md Tryz.f121 0)))), (122, .fn (eFn [(3, 0, 11, 66), (7, 4, 64, 69)] (rsE (cFn Tryz.prog md Tryz.f122 0)))), (124, .fn (gE 3 74 (rG (cFn Tryz.prog md Tryz.f124 0)))), (125, .fn (gE 6 71 (rG (cFn Tryz.prog md Tryz.f125 0)))), (126, .fn (gE 9 71 (rG (cFn Tryz.prog md Tryz.f126 0)))), (127, .fn (gE 12 71 (rG (cFn Tryz.prog md Tryz.f127 0))))]
noncomputable def tab11 : List (Nat × AFunc) := [(128, .fn (gE 15 71 (rG (cFn Tryz.prog md Tryz.f128 0)))), (129, .fn (gE 18 71 (rG (cFn Tryz.prog md Tryz.f129 0)))), (130, .fn (gE 21 71 (rG (cFn Tryz.prog md Tryz.f130 0)))), (131, .fn (gE 24 71 (rG (cFn Tryz.prog md Tryz.f131 0)))), (132, .fn (gE 27 71 (rG (cFn Tryz.prog md Tryz.f132 0)))), (133, .fn (gE 30 71 (rG (cFn Tryz.prog md Tryz.f133 0)))), (134, .fn (gE 33 71 (rG (cFn Tryz.prog md Tryz.f134 0)))), (135, .fn (gE 36 71 (rG (cFn Tryz.prog md Tryz.f135 0)))), (136, .fn (gE 39 71 (rG (cFn Tryz.prog md Tryz.f136 0)))), (137, .fn (gE 42 71 (rG (cFn Tryz.prog md Tryz.f137 0))))]
noncomputable def tab12 : List (Nat × AFunc) := [(138, .fn (gE 45 71 (rG (cFn Tryz.prog md Tryz.f138 0)))), (139, .fn (gE 48 71 (rG (cFn Tryz.prog md Tryz.f139 0)))), (140, .fn (gE 51 71 (rG (cFn Tryz.prog md Tryz.f140 0)))), (141, .fn (gE 54 71 (rG (cFn Tryz.prog md Tryz.f141 0)))), (142, .fn (gE 57 71 (rG (cFn Tryz.prog md Tryz.f142 0)))), (143, .fn (gE 60 71 (rG (cFn Tryz.prog md Tryz.f143 0)))), (144, .fn (gE 63 71 (rG (cFn Tryz.prog md Tryz.f144 0)))), (145, .fn (gE 66 71 (rG (cFn Tryz.prog md Tryz.f145 0)))), (146, .fn (gE 69 71 (rG (cFn Tryz.prog md Tryz.f146 0)))), (184, .ext (.nop 0))]
noncomputable def tab13 : List (Nat × AFunc) := [(185, .ext .cas32), (186, .ext (.nop 0)), (187, .ext (.nop 1)), (189, .ext (.nop 1)), (190, .ext .add32)]
noncomputable def tabs : List (List (Nat × AFunc)) := [tab0, tab1, tab2, tab3, tab4, tab5, tab6, tab7, tab8, tab9, tab10, tab11, tab12, tab13]
def look : List (Nat × AFunc) → Nat → Option AFunc
  | [], _ => none
  | (k, v) :: r, f => if k = f then some v else look r f
def look2 : List (List (Nat × AFunc)) → Nat → Option AFunc
  | [], _ => none
  | l :: r, f => match look l f with
    | some v => some v
    | none => look2 r f
noncomputable def Cx (old : Old) : Ctx := { old, T := look2 tabs, meth := fun _ _ => none, lies := fun e n off u => liesAt Tryz.prog Tryz.prog.depth e (n / Tryz.prog.cellsOf e) off u 1 }
def Good (C : Ctx) (f : FuncId) : AFunc → Prop
  | .fn fn => ∃ F, Tryz.prog.funcs[f]? = some F ∧ cFn Tryz.prog md F fn.mode = some fn
  | .ext e => ∀ w1, OldOk C.old w1 → ExtOk Tryz.prog w1 C f e
theorem g3 (old : Old) : Good (Cx old) 3 (.fn a3) := ⟨Tryz.f3, Tryz.func3, by kernel_rfl⟩
theorem g8 (old : Old) : Good (Cx old) 8 (.fn a8) := ⟨Tryz.f8, Tryz.func8, by kernel_rfl⟩
theorem g11 (old : Old) : Good (Cx old) 11 (.fn a11) := ⟨Tryz.f11, Tryz.func11, by kernel_rfl⟩
theorem g12 (old : Old) : Good (Cx old) 12 (.fn a12) := ⟨Tryz.f12, Tryz.func12, by kernel_rfl⟩
theorem g13 (old : Old) : Good (Cx old) 13 (.fn a13) := ⟨Tryz.f13, Tryz.func13, by kernel_rfl⟩
theorem g14 (old : Old) : Good (Cx old) 14 (.fn a14) := ⟨Tryz.f14, Tryz.func14, by kernel_rfl⟩
theorem g15 (old : Old) : Good (Cx old) 15 (.fn a15) := ⟨Tryz.f15, Tryz.func15, by kernel_rfl⟩
theorem g16 (old : Old) : Good (Cx old) 16 (.fn a16) := ⟨Tryz.f16, Tryz.func16, by kernel_rfl⟩
theorem g17 (old : Old) : Good (Cx old) 17 (.fn a17) := ⟨Tryz.f17, Tryz.func17, by kernel_rfl⟩
theorem g18 (old : Old) : Good (Cx old) 18 (.fn a18) := ⟨Tryz.f18, Tryz.func18, by kernel_rfl⟩
theorem g19 (old : Old) : Good (Cx old) 19 (.fn a19) := ⟨Tryz.f19, Tryz.func19, by kernel_rfl⟩
theorem g20 (old : Old) : Good (Cx old) 20 (.fn a20) := ⟨Tryz.f20, Tryz.func20, by kernel_rfl⟩
theorem g21 (old : Old) : Good (Cx old) 21 (.fn a21) := ⟨Tryz.f21, Tryz.func21, by kernel_rfl⟩
theorem g22 (old : Old) : Good (Cx old) 22 (.fn a22) := ⟨Tryz.f22, Tryz.func22, by kernel_rfl⟩
theorem g23 (old : Old) : Good (Cx old) 23 (.fn a23) := ⟨Tryz.f23, Tryz.func23, by kernel_rfl⟩
theorem g24 (old : Old) : Good (Cx old) 24 (.fn a24) := ⟨Tryz.f24, Tryz.func24, by kernel_rfl⟩
theorem g25 (old : Old) : Good (Cx old) 25 (.fn a25) := ⟨Tryz.f25, Tryz.func25, by kernel_rfl⟩
theorem g26 (old : Old) : Good (Cx old) 26 (.fn a26) := ⟨Tryz.f26, Tryz.func26, by kernel_rfl⟩
theorem g27 (old : Old) : Good (Cx old) 27 (.fn a27) := ⟨Tryz.f27, Tryz.func27, by kernel_rfl⟩
theorem g28 (old : Old) : Good (Cx old) 28 (.fn a28) := ⟨Tryz.f28, Tryz.func28, by kernel_rfl⟩
theorem g29 (old : Old) : Good (Cx old) 29 (.fn a29) := ⟨Tryz.f29, Tryz.func29, by kernel_rfl⟩
theorem g30 (old : Old) : Good (Cx old) 30 (.fn a30) := ⟨Tryz.f30, Tryz.func30, by kernel_rfl⟩
theorem g35 (old : Old) : Good (Cx old) 35 (.fn a35) := ⟨Tryz.f35, Tryz.func35, by kernel_rfl⟩
theorem g37 (old : Old) : Good (Cx old) 37 (.fn a37) := ⟨Tryz.f37, Tryz.func37, by kernel_rfl⟩
theorem g38 (old : Old) : Good (Cx old) 38 (.fn a38) := ⟨Tryz.f38, Tryz.func38, by kernel_rfl⟩
theorem g39 (old : Old) : Good (Cx old) 39 (.fn a39) := ⟨Tryz.f39, Tryz.func39, by kernel_rfl⟩
theorem g40 (old : Old) : Good (Cx old) 40 (.fn a40) := ⟨Tryz.f40, Tryz.func40, by kernel_rfl⟩
theorem g41 (old : Old) : Good (Cx old) 41 (.fn a41) := ⟨Tryz.f41, Tryz.func41, by kernel_rfl⟩
theorem g42 (old : Old) : Good (Cx old) 42 (.fn a42) := ⟨Tryz.f42, Tryz.func42, by kernel_rfl⟩
theorem g43 (old : Old) : Good (Cx old) 43 (.fn a43) := ⟨Tryz.f43, Tryz.func43, by kernel_rfl⟩
theorem g45 (old : Old) : Good (Cx old) 45 (.fn a45) := ⟨Tryz.f45, Tryz.func45, by kernel_rfl⟩
theorem g46 (old : Old) : Good (Cx old) 46 (.fn a46) := ⟨Tryz.f46, Tryz.func46, by kernel_rfl⟩
theorem g53 (old : Old) : Good (Cx old) 53 (.fn a53) := ⟨Tryz.f53, Tryz.func53, by kernel_rfl⟩
theorem g54 (old : Old) : Good (Cx old) 54 (.fn a54) := ⟨Tryz.f54, Tryz.func54, by kernel_rfl⟩
theorem g55 (old : Old) : Good (Cx old) 55 (.fn a55) := ⟨Tryz.f55, Tryz.func55, by kernel_rfl⟩
theorem g56 (old : Old) : Good (Cx old) 56 (.fn a56) := ⟨Tryz.f56, Tryz.func56, by kernel_rfl⟩
theorem g57 (old : Old) : Good (Cx old) 57 (.fn a57) := ⟨Tryz.f57, Tryz.func57, by kernel_rfl⟩
theorem g58 (old : Old) : Good (Cx old) 58 (.fn a58) := ⟨Tryz.f58, Tryz.func58, by kernel_rfl⟩
theorem g59 (old : Old) : Good (Cx old) 59 (.fn a59) := ⟨Tryz.f59, Tryz.func59, by kernel_rfl⟩
theorem g60 (old : Old) : Good (Cx old) 60 (.fn a60) := ⟨Tryz.f60, Tryz.func60, by kernel_rfl⟩
theorem g61 (old : Old) : Good (Cx old) 61 (.fn a61) := ⟨Tryz.f61, Tryz.func61, by kernel_rfl⟩
theorem g62 (old : Old) : Good (Cx old) 62 (.fn a62) := ⟨Tryz.f62, Tryz.func62, by kernel_rfl⟩
theorem g63 (old : Old) : Good (Cx old) 63 (.fn a63) := ⟨Tryz.f63, Tryz.func63, by kernel_rfl⟩
theorem g64 (old : Old) : Good (Cx old) 64 (.fn a64) := ⟨Tryz.f64, Tryz.func64, by kernel_rfl⟩
theorem g65 (old : Old) : Good (Cx old) 65 (.fn a65) := ⟨Tryz.f65, Tryz.func65, by kernel_rfl⟩
theorem g66 (old : Old) : Good (Cx old) 66 (.fn a66) := ⟨Tryz.f66, Tryz.func66, by kernel_rfl⟩
theorem g67 (old : Old) : Good (Cx old) 67 (.fn a67) := ⟨Tryz.f67, Tryz.func67, by kernel_rfl⟩
theorem g68 (old : Old) : Good (Cx old) 68 (.fn a68) := ⟨Tryz.f68, Tryz.func68, by kernel_rfl⟩
theorem g69 (old : Old) : Good (Cx old) 69 (.fn a69) := ⟨Tryz.f69, Tryz.func69, by kernel_rfl⟩
theorem g70 (old : Old) : Good (Cx old) 70 (.fn a70) := ⟨Tryz.f70, Tryz.func70, by kernel_rfl⟩
theorem g71 (old : Old) : Good (Cx old) 71 (.fn a71) := ⟨Tryz.f71, Tryz.func71, by kernel_rfl⟩
theorem g72 (old : Old) : Good (Cx old) 72 (.fn a72) := ⟨Tryz.f72, Tryz.func72, by kernel_rfl⟩
theorem g74 (old : Old) : Good (Cx old) 74 (.fn a74) := ⟨Tryz.f74, Tryz.func74, by kernel_rfl⟩
theorem g75 (old : Old) : Good (Cx old) 75 (.fn a75) := ⟨Tryz.f75, Tryz.func75, by kernel_rfl⟩
theorem g76 (old : Old) : Good (Cx old) 76 (.fn a76) := ⟨Tryz.f76, Tryz.func76, by kernel_rfl⟩
theorem g77 (old : Old) : Good (Cx old) 77 (.fn a77) := ⟨Tryz.f77, Tryz.func77, by kernel_rfl⟩
theorem g78 (old : Old) : Good (Cx old) 78 (.fn a78) := ⟨Tryz.f78, Tryz.func78, by kernel_rfl⟩
theorem g79 (old : Old) : Good (Cx old) 79 (.fn a79) := ⟨Tryz.f79, Tryz.func79, by kernel_rfl⟩
theorem g80 (old : Old) : Good (Cx old) 80 (.fn a80) := ⟨Tryz.f80, Tryz.func80, by kernel_rfl⟩
theorem g81 (old : Old) : Good (Cx old) 81 (.fn a81) := ⟨Tryz.f81, Tryz.func81, by kernel_rfl⟩
theorem g82 (old : Old) : Good (Cx old) 82 (.fn a82) := ⟨Tryz.f82, Tryz.func82, by kernel_rfl⟩
theorem g83 (old : Old) : Good (Cx old) 83 (.fn a83) := ⟨Tryz.f83, Tryz.func83, by kernel_rfl⟩
theorem g84 (old : Old) : Good (Cx old) 84 (.fn a84) := ⟨Tryz.f84, Tryz.func84, by kernel_rfl⟩
theorem g85 (old : Old) : Good (Cx old) 85 (.fn a85) := ⟨Tryz.f85, Tryz.func85, by kernel_rfl⟩
theorem g86 (old : Old) : Good (Cx old) 86 (.fn a86) := ⟨Tryz.f86, Tryz.func86, by kernel_rfl⟩
theorem g87 (old : Old) : Good (Cx old) 87 (.fn a87) := ⟨Tryz.f87, Tryz.func87, by kernel_rfl⟩
theorem g93 (old : Old) : Good (Cx old) 93 (.fn a93) := ⟨Tryz.f93, Tryz.func93, by kernel_rfl⟩
theorem g105 (old : Old) : Good (Cx old) 105 (.fn a105) := ⟨Tryz.f105, Tryz.func105, by kernel_rfl⟩
theorem g106 (old : Old) : Good (Cx old) 106 (.fn a106) := ⟨Tryz.f106, Tryz.func106, by kernel_rfl⟩
theorem g107 (old : Old) : Good (Cx old) 107 (.fn a107) := ⟨Tryz.f107, Tryz.func107, by kernel_rfl⟩
theorem g108 (old : Old) : Good (Cx old) 108 (.fn a108) := ⟨Tryz.f108, Tryz.func108, by kernel_rfl⟩
theorem g109 (old : Old) : Good (Cx old) 109 (.fn a109) := ⟨Tryz.f109, Tryz.func109, by kernel_rfl⟩
theorem g110 (old : Old) : Good (Cx old) 110 (.fn a110) := ⟨Tryz.f110, Tryz.func110, by kernel_rfl⟩
theorem g111 (old : Old) : Good (Cx old) 111 (.fn a111) := ⟨Tryz.f111, Tryz.func111, by kernel_rfl⟩
theorem g112 (old : Old) : Good (Cx old) 112 (.fn a112) := ⟨Tryz.f112, Tryz.func112, by kernel_rfl⟩
theorem g113 (old : Old) : Good (Cx old) 113 (.fn a113) := ⟨Tryz.f113, Tryz.func113, by kernel_rfl⟩
theorem g114 (old : Old) : Good (Cx old) 114 (.fn a114) := ⟨Tryz.f114, Tryz.func114, by kernel_rfl⟩
theorem g115 (old : Old) : Good (Cx old) 115 (.fn a115) := ⟨Tryz.f115, Tryz.func115, by kernel_rfl⟩
theorem g116 (old : Old) : Good (Cx old) 116 (.fn a116) := ⟨Tryz.f116, Tryz.func116, by kernel_rfl⟩
theorem g123 (old : Old) : Good (Cx old) 123 (.fn a123) := ⟨Tryz.f123, Tryz.func123, by kernel_rfl⟩
theorem g147 (old : Old) : Good (Cx old) 147 (.fn a147) := ⟨Tryz.f147, Tryz.func147, by kernel_rfl⟩
theorem g148 (old : Old) : Good (Cx old) 148 (.fn a148) := ⟨Tryz.f148, Tryz.func148, by kernel_rfl⟩
theorem g151 (old : Old) : Good (Cx old) 151 (.fn a151) := ⟨Tryz.f151, Tryz.func151, by kernel_rfl⟩
theorem g157 (old : Old) : Good (Cx old) 157 (.fn a157) := ⟨Tryz.f157, Tryz.func157, by kernel_rfl⟩
theorem g158 (old : Old) : Good (Cx old) 158 (.fn a158) := ⟨Tryz.f158, Tryz.func158, by kernel_rfl⟩
theorem g159 (old : Old) : Good (Cx old) 159 (.fn a159) := ⟨Tryz.f159, Tryz.func159, by kernel_rfl⟩
theorem g160 (old : Old) : Good (Cx old) 160 (.fn a160) := ⟨Tryz.f160, Tryz.func160, by kernel_rfl⟩
theorem g161 (old : Old) : Good (Cx old) 161 (.fn a161) := ⟨Tryz.f161, Tryz.func161, by kernel_rfl⟩
theorem g180 (old : Old) : Good (Cx old) 180 (.fn a180) := ⟨Tryz.f180, Tryz.func180, by kernel_rfl⟩
theorem g181 (old : Old) : Good (Cx old) 181 (.fn a181) := ⟨Tryz.f181, Tryz.func181, by kernel_rfl⟩
theorem g182 (old : Old) : Good (Cx old) 182 (.fn a182) := ⟨Tryz.f182, Tryz.func182, by kernel_rfl⟩
theorem g183 (old : Old) : Good (Cx old) 183 (.fn a183) := ⟨Tryz.f183, Tryz.func183, by kernel_rfl⟩
theorem g215 (old : Old) : Good (Cx old) 215 (.fn a215) := ⟨Tryz.f215, Tryz.func215, by kernel_rfl⟩
theorem g216 (old : Old) : Good (Cx old) 216 (.fn a216) := ⟨Tryz.f216, Tryz.func216, by kernel_rfl⟩
theorem g230 (old : Old) : Good (Cx old) 230 (.fn a230) := ⟨Tryz.f230, Tryz.func230, by kernel_rfl⟩
theorem g240 (old : Old) : Good (Cx old) 240 (.fn a240) := ⟨Tryz.f240, Tryz.func240, by kernel_rfl⟩
theorem g241 (old : Old) : Good (Cx old) 241 (.fn a241) := ⟨Tryz.f241, Tryz.func241, by kernel_rfl⟩
theorem g242 (old : Old) : Good (Cx old) 242 (.fn a242) := ⟨Tryz.f242, Tryz.func242, by kernel_rfl⟩
theorem g253 (old : Old) : Good (Cx old) 253 (.fn a253) := ⟨Tryz.f253, Tryz.func253, by kernel_rfl⟩
theorem g254 (old : Old) : Good (Cx old) 254 (.fn a254) := ⟨Tryz.f254, Tryz.func254, by kernel_rfl⟩
theorem g117 (old : Old) : Good (Cx old) 117 (.fn (eFn [(3, 0, 11, 6), (5, 4, 51, 9), (7, 8, 91, 12), (9, 12, 131, 15)] (rsE (cFn Tryz.prog md Tryz.f117 0)))) := ⟨Tryz.f117, Tryz.func117, by kernel_rfl⟩
theorem g118 (old : Old) : Good (Cx old) 118 (.fn (eFn [(3, 0, 11, 18), (5, 4, 51, 21), (7, 8, 91, 24), (9, 12, 131, 27)] (rsE (cFn Tryz.prog md Tryz.f118 0)))) := ⟨Tryz.f118, Tryz.func118, by kernel_rfl⟩
theorem g119 (old : Old) : Good (Cx old) 119 (.fn (eFn [(3, 0, 15, 30), (5, 4, 55, 33), (7, 8, 95, 36), (11, 12, 145, 39)] (rsE (cFn Tryz.prog md Tryz.f119 0)))) := ⟨Tryz.f119, Tryz.func119, by kernel_rfl⟩
theorem g120 (old : Old) : Good (Cx old) 120 (.fn (eFn [(3, 0, 19, 42), (7, 4, 73, 45), (11, 8, 129, 48), (15, 12, 185, 51)] (rsE (cFn Tryz.prog md Tryz.f120 0)))) := ⟨Tryz.f120, Tryz.func120, by kernel_rfl⟩
theorem g121 (old : Old) : Good (Cx old) 121 (.fn (eFn [(3, 0, 19, 54), (7, 4, 69, 57), (11, 8, 120, 60), (15, 12, 170, 63)] (rsE (cFn Tryz.prog md Tryz.f121 0)))) := ⟨Tryz.f121, Tryz.func121, by kernel_rfl⟩
theorem g122 (old : Old) : Good (Cx old) 122 (.fn (eFn [(3, 0, 11, 66), (7, 4, 64, 69)] (rsE (cFn Tryz.prog md Tryz.f122 0)))) := ⟨Tryz.f122, Tryz.func122, by kernel_rfl⟩
theorem g124 (old : Old) : Good (Cx old) 124 (.fn (gE 3 74 (rG (cFn Tryz.prog md Tryz.f124 0)))) := ⟨Tryz.f124, Tryz.func124, by kernel_rfl⟩
theorem g125 (old : Old) : Good (Cx old) 125 (.fn (gE 6 71 (rG (cFn Tryz.prog md Tryz.f125 0)))) := ⟨Tryz.f125, Tryz.func125, by kernel_rfl⟩
theorem g126 (old : Old) : Good (Cx old) 126 (.fn (gE 9 71 (rG (cFn Tryz.prog md Tryz.f126 0)))) := ⟨Tryz.f126, Tryz.func126, by kernel_rfl⟩
theorem g127 (old : Old) : Good (Cx old) 127 (.fn (gE 12 71 (rG (cFn Tryz.prog md Tryz.f127 0)))) := ⟨Tryz.f127, Tryz.func127, by kernel_rfl⟩
theorem g128 (old : Old) : Good (Cx old) 128 (.fn (gE 15 71 (rG (cFn Tryz.prog md Tryz.f128 0)))) := ⟨Tryz.f128, Tryz.func128, by kernel_rfl⟩
theorem g129 (old : Old) : Good (Cx old) 129 (.fn (gE 18 71 (rG (cFn Tryz.prog md Tryz.f129 0)))) := ⟨Tryz.f129, Tryz.func129, by kernel_rfl⟩
theorem g130 (old : Old) : Good (Cx old) 130 (.fn (gE 21 71 (rG (cFn Tryz.prog md Tryz.f130 0)))) := ⟨Tryz.f130, Tryz.func130, by kernel_rfl⟩
theorem g131 (old : Old) : Good (Cx old) 131 (.fn (gE 24 71 (rG (cFn Tryz.prog md Tryz.f131 0)))) := ⟨Tryz.f131, Tryz.func131, by kernel_rfl⟩
theorem g132 (old : Old) : Good (Cx old) 132 (.fn (gE 27 71 (rG (cFn Tryz.prog md Tryz.f132 0)))) := ⟨Tryz.f132, Tryz.func132, by kernel_rfl⟩
theorem g133 (old : Old) : Good (Cx old) 133 (.fn (gE 30 71 (rG (cFn Tryz.prog md Tryz.f133 0)))) := ⟨Tryz.f133, Tryz.func133, by kernel_rfl⟩
theorem g134 (old : Old) : Good (Cx old) 134 (.fn (gE 33 71 (rG (cFn Tryz.prog md Tryz.f134 0)))) := ⟨Tryz.f134, Tryz.func134, by kernel_rfl⟩
theorem g135 (old : Old) : Good (Cx old) 135 (.fn (gE 36 71 (rG (cFn Tryz.prog md Tryz.f135 0)))) := ⟨Tryz.f135, Tryz.func135, by kernel_rfl⟩
theorem g136 (old : Old) : Good (Cx old) 136 (.fn (gE 39 71 (rG (cFn Tryz.prog md Tryz.f136 0)))) := ⟨Tryz.f136, Tryz.func136, by kernel_rfl⟩
theorem g137 (old : Old) : Good (Cx old) 137 (.fn (gE 42 71 (rG (cFn Tryz.prog md Tryz.f137 0)))) := ⟨Tryz.f137, Tryz.func137, by kernel_rfl⟩
theorem g138 (old : Old) : Good (Cx old) 138 (.fn (gE 45 71 (rG (cFn Tryz.prog md Tryz.f138 0)))) := ⟨Tryz.f138, Tryz.func138, by kernel_rfl⟩
theorem g139 (old : Old) : Good (Cx old) 139 (.fn (gE 48 71 (rG (cFn Tryz.prog md Tryz.f139 0)))) := ⟨Tryz.f139, Tryz.func139, by kernel_rfl⟩
theorem g140 (old : Old) : Good (Cx old) 140 (.fn (gE 51 71 (rG (cFn Tryz.prog md Tryz.f140 0)))) := ⟨Tryz.f140, Tryz.func140, by kernel_rfl⟩
theorem g141 (old : Old) : Good (Cx old) 141 (.fn (gE 54 71 (rG (cFn Tryz.prog md Tryz.f141 0)))) := ⟨Tryz.f141, Tryz.func141, by kernel_rfl⟩
theorem g142 (old : Old) : Good (Cx old) 142 (.fn (gE 57 71 (rG (cFn Tryz.prog md Tryz.f142 0)))) := ⟨Tryz.f142, Tryz.func142, by kernel_rfl⟩
theorem g143 (old : Old) : Good (Cx old) 143 (.fn (gE 60 71 (rG (cFn Tryz.prog md Tryz.f143 0)))) := ⟨Tryz.f143, Tryz.func143, by kernel_rfl⟩
theorem g144 (old : Old) : Good (Cx old) 144 (.fn (gE 63 71 (rG (cFn Tryz.prog md Tryz.f144 0)))) := ⟨Tryz.f144, Tryz.func144, by kernel_rfl⟩
theorem g145 (old : Old) : Good (Cx old) 145 (.fn (gE 66 71 (rG (cFn Tryz.prog md Tryz.f145 0)))) := ⟨Tryz.f145, Tryz.func145, by kernel_rfl⟩
theorem g146 (old : Old) : Good (Cx old) 146 (.fn (gE 69 71 (rG (cFn Tryz.prog md Tryz.f146 0)))) := ⟨Tryz.f146, Tryz.func146, by kernel_rfl⟩
theorem g184 (old : Old) : Good (Cx old) 184 (.ext (.nop 0)) := fun _ hold => by
  have _ := hold
  exact ext_nop0 (k := .disable) (F := Tryz.f184) ⟨Tryz.func184, by kernel_rfl, by kernel_rfl, by kernel_rfl, by kernel_rfl⟩
theorem g185 (old : Old) : Good (Cx old) 185 (.ext (.cas32)) := fun _ hold => by
  have _ := hold
  exact ext_cas32 hold (F := Tryz.f185) ⟨Tryz.func185, by kernel_rfl, by kernel_rfl, by kernel_rfl, by kernel_rfl⟩
theorem g186 (old : Old) : Good (Cx old) 186 (.ext (.nop 0)) := fun _ hold => by
  have _ := hold
  exact ext_nop0 (k := .enable) (F := Tryz.f186) ⟨Tryz.func186, by kernel_rfl, by kernel_rfl, by kernel_rfl, by kernel_rfl⟩
theorem g187 (old : Old) : Good (Cx old) 187 (.ext (.nop 1)) := fun _ hold => by
  have _ := hold
  exact ext_nop1 (k := .acquire) (F := Tryz.f187) ⟨Tryz.func187, by kernel_rfl, by kernel_rfl, by kernel_rfl, by kernel_rfl⟩
theorem g189 (old : Old) : Good (Cx old) 189 (.ext (.nop 1)) := fun _ hold => by
  have _ := hold
  exact ext_nop1 (k := .releaseMerge) (F := Tryz.f189) ⟨Tryz.func189, by kernel_rfl, by kernel_rfl, by kernel_rfl, by kernel_rfl⟩
theorem g190 (old : Old) : Good (Cx old) 190 (.ext (.add32)) := fun _ hold => by
  have _ := hold
  exact ext_add32 hold (F := Tryz.f190) ⟨Tryz.func190, by kernel_rfl, by kernel_rfl, by kernel_rfl, by kernel_rfl⟩
theorem look_all {Q : FuncId → AFunc → Prop} : ∀ {l : List (Nat × AFunc)}, (∀ p ∈ l, Q p.1 p.2) → ∀ {f v}, look l f = some v → Q f v
  | [], _, f, v, h => by cases h
  | (k, x) :: r, hq, f, v, h => by
    simp only [look] at h
    split at h
    · rename_i hk
      cases h
      subst hk
      exact hq (k, x) (by simp)
    · exact look_all (fun p hp => hq p (by simp [hp])) h
theorem look2_all {Q : FuncId → AFunc → Prop} : ∀ {ls : List (List (Nat × AFunc))}, (∀ l ∈ ls, ∀ p ∈ l, Q p.1 p.2) → ∀ {f v}, look2 ls f = some v → Q f v
  | [], _, f, v, h => by cases h
  | l :: r, hq, f, v, h => by
    simp only [look2] at h
    split at h
    · rename_i x hx
      cases h
      exact look_all (hq l (by simp)) hx
    · exact look2_all (fun p hp => hq p (by simp [hp])) h
theorem all0 (old : Old) : ∀ p ∈ tab0, Good (Cx old) p.1 p.2 := by
  simp only [tab0, List.forall_mem_cons]
  exact ⟨g3 old, g8 old, g11 old, g12 old, g13 old, g14 old, g15 old, g16 old, g17 old, g18 old, fun _ h => by cases h⟩
theorem all1 (old : Old) : ∀ p ∈ tab1, Good (Cx old) p.1 p.2 := by
  simp only [tab1, List.forall_mem_cons]
  exact ⟨g19 old, g20 old, g21 old, g22 old, g23 old, g24 old, g25 old, g26 old, g27 old, g28 old, fun _ h => by cases h⟩
theorem all2 (old : Old) : ∀ p ∈ tab2, Good (Cx old) p.1 p.2 := by
  simp only [tab2, List.forall_mem_cons]
  exact ⟨g29 old, g30 old, g35 old, g37 old, g38 old, g39 old, g40 old, g41 old, g42 old, g43 old, fun _ h => by cases h⟩
theorem all3 (old : Old) : ∀ p ∈ tab3, Good (Cx old) p.1 p.2 := by
  simp only [tab3, List.forall_mem_cons]
  exact ⟨g45 old, g46 old, g53 old, g54 old, g55 old, g56 old, g57 old, g58 old, g59 old, g60 old, fun _ h => by cases h⟩
theorem all4 (old : Old) : ∀ p ∈ tab4, Good (Cx old) p.1 p.2 := by
  simp only [tab4, List.forall_mem_cons]
  exact ⟨g61 old, g62 old, g63 old, g64 old, g65 old, g66 old, g67 old, g68 old, g69 old, g70 old, fun _ h => by cases h⟩
theorem all5 (old : Old) : ∀ p ∈ tab5, Good (Cx old) p.1 p.2 := by
  simp only [tab5, List.forall_mem_cons]
  exact ⟨g71 old, g72 old, g74 old, g75 old, g76 old, g77 old, g78 old, g79 old, g80 old, g81 old, fun _ h => by cases h⟩
theorem all6 (old : Old) : ∀ p ∈ tab6, Good (Cx old) p.1 p.2 := by
  simp only [tab6, List.forall_mem_cons]
  exact ⟨g82 old, g83 old, g84 old, g85 old, g86 old, g87 old, g93 old, g105 old, g106 old, g107 old, fun _ h => by cases h⟩
theorem all7 (old : Old) : ∀ p ∈ tab7, Good (Cx old) p.1 p.2 := by
  simp only [tab7, List.forall_mem_cons]
  exact ⟨g108 old, g109 old, g110 old, g111 old, g112 old, g113 old, g114 old, g115 old, g116 old, g123 old, fun _ h => by cases h⟩
theorem all8 (old : Old) : ∀ p ∈ tab8, Good (Cx old) p.1 p.2 := by
  simp only [tab8, List.forall_mem_cons]
  exact ⟨g147 old, g148 old, g151 old, g157 old, g158 old, g159 old, g160 old, g161 old, g180 old, g181 old, fun _ h => by cases h⟩
theorem all9 (old : Old) : ∀ p ∈ tab9, Good (Cx old) p.1 p.2 := by
  simp only [tab9, List.forall_mem_cons]
  exact ⟨g182 old, g183 old, g215 old, g216 old, g230 old, g240 old, g241 old, g242 old, g253 old, g254 old, fun _ h => by cases h⟩
theorem all10 (old : Old) : ∀ p ∈ tab10, Good (Cx old) p.1 p.2 := by
  simp only [tab10, List.forall_mem_cons]
  exact ⟨g117 old, g118 old, g119 old, g120 old, g121 old, g122 old, g124 old, g125 old, g126 old, g127 old, fun _ h => by cases h⟩
theorem all11 (old : Old) : ∀ p ∈ tab11, Good (Cx old) p.1 p.2 := by
  simp only [tab11, List.forall_mem_cons]
  exact ⟨g128 old, g129 old, g130 old, g131 old, g132 old, g133 old, g134 old, g135 old, g136 old, g137 old, fun _ h => by cases h⟩
theorem all12 (old : Old) : ∀ p ∈ tab12, Good (Cx old) p.1 p.2 := by
  simp only [tab12, List.forall_mem_cons]
  exact ⟨g138 old, g139 old, g140 old, g141 old, g142 old, g143 old, g144 old, g145 old, g146 old, g184 old, fun _ h => by cases h⟩
theorem all13 (old : Old) : ∀ p ∈ tab13, Good (Cx old) p.1 p.2 := by
  simp only [tab13, List.forall_mem_cons]
  exact ⟨g185 old, g186 old, g187 old, g189 old, g190 old, fun _ h => by cases h⟩
theorem all (old : Old) : ∀ l ∈ tabs, ∀ p ∈ l, Good (Cx old) p.1 p.2 := by
  simp only [tabs, List.forall_mem_cons]
  exact ⟨all0 old, all1 old, all2 old, all3 old, all4 old, all5 old, all6 old, all7 old, all8 old, all9 old, all10 old, all11 old, all12 old, all13 old, fun _ h => by cases h⟩
theorem mixed : Tryz.prog.follows .mixedOrders = true := by kernel_rfl
theorem liesOk (old : Old) : LiesOk Tryz.prog (Cx old) := by
  intro e n off u h
  dsimp only [Cx] at h
  exact h
theorem methOk (old : Old) (ty : TypeId) (name : String) : (Cx old).meth ty name = none := by dsimp only [Cx]
theorem Tx (old : Old) (f : FuncId) : (Cx old).T f = look2 tabs f := by dsimp only [Cx]
theorem t3 (old : Old) : (Cx old).T 3 = some (.fn a3) := rfl
theorem t8 (old : Old) : (Cx old).T 8 = some (.fn a8) := rfl
theorem t11 (old : Old) : (Cx old).T 11 = some (.fn a11) := rfl
theorem t12 (old : Old) : (Cx old).T 12 = some (.fn a12) := rfl
theorem t13 (old : Old) : (Cx old).T 13 = some (.fn a13) := rfl
theorem t14 (old : Old) : (Cx old).T 14 = some (.fn a14) := rfl
theorem t15 (old : Old) : (Cx old).T 15 = some (.fn a15) := rfl
theorem t16 (old : Old) : (Cx old).T 16 = some (.fn a16) := rfl
theorem t17 (old : Old) : (Cx old).T 17 = some (.fn a17) := rfl
theorem t18 (old : Old) : (Cx old).T 18 = some (.fn a18) := rfl
theorem t19 (old : Old) : (Cx old).T 19 = some (.fn a19) := rfl
theorem t20 (old : Old) : (Cx old).T 20 = some (.fn a20) := rfl
theorem t21 (old : Old) : (Cx old).T 21 = some (.fn a21) := rfl
theorem t22 (old : Old) : (Cx old).T 22 = some (.fn a22) := rfl
theorem t23 (old : Old) : (Cx old).T 23 = some (.fn a23) := rfl
theorem t24 (old : Old) : (Cx old).T 24 = some (.fn a24) := rfl
theorem t25 (old : Old) : (Cx old).T 25 = some (.fn a25) := rfl
theorem t26 (old : Old) : (Cx old).T 26 = some (.fn a26) := rfl
theorem t27 (old : Old) : (Cx old).T 27 = some (.fn a27) := rfl
theorem t28 (old : Old) : (Cx old).T 28 = some (.fn a28) := rfl
theorem t29 (old : Old) : (Cx old).T 29 = some (.fn a29) := rfl
theorem t30 (old : Old) : (Cx old).T 30 = some (.fn a30) := rfl
theorem t35 (old : Old) : (Cx old).T 35 = some (.fn a35) := rfl
theorem t37 (old : Old) : (Cx old).T 37 = some (.fn a37) := rfl
theorem t38 (old : Old) : (Cx old).T 38 = some (.fn a38) := rfl
theorem t39 (old : Old) : (Cx old).T 39 = some (.fn a39) := rfl
theorem t40 (old : Old) : (Cx old).T 40 = some (.fn a40) := rfl
theorem t41 (old : Old) : (Cx old).T 41 = some (.fn a41) := rfl
theorem t42 (old : Old) : (Cx old).T 42 = some (.fn a42) := rfl
theorem t43 (old : Old) : (Cx old).T 43 = some (.fn a43) := rfl
theorem t45 (old : Old) : (Cx old).T 45 = some (.fn a45) := rfl
theorem t46 (old : Old) : (Cx old).T 46 = some (.fn a46) := rfl
theorem t53 (old : Old) : (Cx old).T 53 = some (.fn a53) := rfl
theorem t54 (old : Old) : (Cx old).T 54 = some (.fn a54) := rfl
theorem t55 (old : Old) : (Cx old).T 55 = some (.fn a55) := rfl
theorem t56 (old : Old) : (Cx old).T 56 = some (.fn a56) := rfl
theorem t57 (old : Old) : (Cx old).T 57 = some (.fn a57) := rfl
theorem t58 (old : Old) : (Cx old).T 58 = some (.fn a58) := rfl
theorem t59 (old : Old) : (Cx old).T 59 = some (.fn a59) := rfl
theorem t60 (old : Old) : (Cx old).T 60 = some (.fn a60) := rfl
theorem t61 (old : Old) : (Cx old).T 61 = some (.fn a61) := rfl
theorem t62 (old : Old) : (Cx old).T 62 = some (.fn a62) := rfl
theorem t63 (old : Old) : (Cx old).T 63 = some (.fn a63) := rfl
theorem t64 (old : Old) : (Cx old).T 64 = some (.fn a64) := rfl
theorem t65 (old : Old) : (Cx old).T 65 = some (.fn a65) := rfl
theorem t66 (old : Old) : (Cx old).T 66 = some (.fn a66) := rfl
theorem t67 (old : Old) : (Cx old).T 67 = some (.fn a67) := rfl
theorem t68 (old : Old) : (Cx old).T 68 = some (.fn a68) := rfl
theorem t69 (old : Old) : (Cx old).T 69 = some (.fn a69) := rfl
theorem t70 (old : Old) : (Cx old).T 70 = some (.fn a70) := rfl
theorem t71 (old : Old) : (Cx old).T 71 = some (.fn a71) := rfl
theorem t72 (old : Old) : (Cx old).T 72 = some (.fn a72) := rfl
theorem t74 (old : Old) : (Cx old).T 74 = some (.fn a74) := rfl
theorem t75 (old : Old) : (Cx old).T 75 = some (.fn a75) := rfl
theorem t76 (old : Old) : (Cx old).T 76 = some (.fn a76) := rfl
theorem t77 (old : Old) : (Cx old).T 77 = some (.fn a77) := rfl
theorem t78 (old : Old) : (Cx old).T 78 = some (.fn a78) := rfl
theorem t79 (old : Old) : (Cx old).T 79 = some (.fn a79) := rfl
theorem t80 (old : Old) : (Cx old).T 80 = some (.fn a80) := rfl
theorem t81 (old : Old) : (Cx old).T 81 = some (.fn a81) := rfl
theorem t82 (old : Old) : (Cx old).T 82 = some (.fn a82) := rfl
theorem t83 (old : Old) : (Cx old).T 83 = some (.fn a83) := rfl
theorem t84 (old : Old) : (Cx old).T 84 = some (.fn a84) := rfl
theorem t85 (old : Old) : (Cx old).T 85 = some (.fn a85) := rfl
theorem t86 (old : Old) : (Cx old).T 86 = some (.fn a86) := rfl
theorem t87 (old : Old) : (Cx old).T 87 = some (.fn a87) := rfl
theorem t93 (old : Old) : (Cx old).T 93 = some (.fn a93) := rfl
theorem t105 (old : Old) : (Cx old).T 105 = some (.fn a105) := rfl
theorem t106 (old : Old) : (Cx old).T 106 = some (.fn a106) := rfl
theorem t107 (old : Old) : (Cx old).T 107 = some (.fn a107) := rfl
theorem t108 (old : Old) : (Cx old).T 108 = some (.fn a108) := rfl
theorem t109 (old : Old) : (Cx old).T 109 = some (.fn a109) := rfl
theorem t110 (old : Old) : (Cx old).T 110 = some (.fn a110) := rfl
theorem t111 (old : Old) : (Cx old).T 111 = some (.fn a111) := rfl
theorem t112 (old : Old) : (Cx old).T 112 = some (.fn a112) := rfl
theorem t113 (old : Old) : (Cx old).T 113 = some (.fn a113) := rfl
theorem t114 (old : Old) : (Cx old).T 114 = some (.fn a114) := rfl
theorem t115 (old : Old) : (Cx old).T 115 = some (.fn a115) := rfl
theorem t116 (old : Old) : (Cx old).T 116 = some (.fn a116) := rfl
theorem t123 (old : Old) : (Cx old).T 123 = some (.fn a123) := rfl
theorem t147 (old : Old) : (Cx old).T 147 = some (.fn a147) := rfl
theorem t148 (old : Old) : (Cx old).T 148 = some (.fn a148) := rfl
theorem t151 (old : Old) : (Cx old).T 151 = some (.fn a151) := rfl
theorem t157 (old : Old) : (Cx old).T 157 = some (.fn a157) := rfl
theorem t158 (old : Old) : (Cx old).T 158 = some (.fn a158) := rfl
theorem t159 (old : Old) : (Cx old).T 159 = some (.fn a159) := rfl
theorem t160 (old : Old) : (Cx old).T 160 = some (.fn a160) := rfl
theorem t161 (old : Old) : (Cx old).T 161 = some (.fn a161) := rfl
theorem t180 (old : Old) : (Cx old).T 180 = some (.fn a180) := rfl
theorem t181 (old : Old) : (Cx old).T 181 = some (.fn a181) := rfl
theorem t182 (old : Old) : (Cx old).T 182 = some (.fn a182) := rfl
theorem t183 (old : Old) : (Cx old).T 183 = some (.fn a183) := rfl
theorem t216 (old : Old) : (Cx old).T 216 = some (.fn a216) := rfl
theorem t230 (old : Old) : (Cx old).T 230 = some (.fn a230) := rfl
theorem t253 (old : Old) : (Cx old).T 253 = some (.fn a253) := rfl
theorem t117 (old : Old) : (Cx old).T 117 = some (.fn (eFn [(3, 0, 11, 6), (5, 4, 51, 9), (7, 8, 91, 12), (9, 12, 131, 15)] (rsE (cFn Tryz.prog md Tryz.f117 0)))) := rfl
theorem t118 (old : Old) : (Cx old).T 118 = some (.fn (eFn [(3, 0, 11, 18), (5, 4, 51, 21), (7, 8, 91, 24), (9, 12, 131, 27)] (rsE (cFn Tryz.prog md Tryz.f118 0)))) := rfl
theorem t119 (old : Old) : (Cx old).T 119 = some (.fn (eFn [(3, 0, 15, 30), (5, 4, 55, 33), (7, 8, 95, 36), (11, 12, 145, 39)] (rsE (cFn Tryz.prog md Tryz.f119 0)))) := rfl
theorem t120 (old : Old) : (Cx old).T 120 = some (.fn (eFn [(3, 0, 19, 42), (7, 4, 73, 45), (11, 8, 129, 48), (15, 12, 185, 51)] (rsE (cFn Tryz.prog md Tryz.f120 0)))) := rfl
theorem t121 (old : Old) : (Cx old).T 121 = some (.fn (eFn [(3, 0, 19, 54), (7, 4, 69, 57), (11, 8, 120, 60), (15, 12, 170, 63)] (rsE (cFn Tryz.prog md Tryz.f121 0)))) := rfl
theorem t122 (old : Old) : (Cx old).T 122 = some (.fn (eFn [(3, 0, 11, 66), (7, 4, 64, 69)] (rsE (cFn Tryz.prog md Tryz.f122 0)))) := rfl
theorem t124 (old : Old) : (Cx old).T 124 = some (.fn (gE 3 74 (rG (cFn Tryz.prog md Tryz.f124 0)))) := rfl
theorem t125 (old : Old) : (Cx old).T 125 = some (.fn (gE 6 71 (rG (cFn Tryz.prog md Tryz.f125 0)))) := rfl
theorem t126 (old : Old) : (Cx old).T 126 = some (.fn (gE 9 71 (rG (cFn Tryz.prog md Tryz.f126 0)))) := rfl
theorem t127 (old : Old) : (Cx old).T 127 = some (.fn (gE 12 71 (rG (cFn Tryz.prog md Tryz.f127 0)))) := rfl
theorem t128 (old : Old) : (Cx old).T 128 = some (.fn (gE 15 71 (rG (cFn Tryz.prog md Tryz.f128 0)))) := rfl
theorem t129 (old : Old) : (Cx old).T 129 = some (.fn (gE 18 71 (rG (cFn Tryz.prog md Tryz.f129 0)))) := rfl
theorem t130 (old : Old) : (Cx old).T 130 = some (.fn (gE 21 71 (rG (cFn Tryz.prog md Tryz.f130 0)))) := rfl
theorem t131 (old : Old) : (Cx old).T 131 = some (.fn (gE 24 71 (rG (cFn Tryz.prog md Tryz.f131 0)))) := rfl
theorem t132 (old : Old) : (Cx old).T 132 = some (.fn (gE 27 71 (rG (cFn Tryz.prog md Tryz.f132 0)))) := rfl
theorem t133 (old : Old) : (Cx old).T 133 = some (.fn (gE 30 71 (rG (cFn Tryz.prog md Tryz.f133 0)))) := rfl
theorem t134 (old : Old) : (Cx old).T 134 = some (.fn (gE 33 71 (rG (cFn Tryz.prog md Tryz.f134 0)))) := rfl
theorem t135 (old : Old) : (Cx old).T 135 = some (.fn (gE 36 71 (rG (cFn Tryz.prog md Tryz.f135 0)))) := rfl
theorem t136 (old : Old) : (Cx old).T 136 = some (.fn (gE 39 71 (rG (cFn Tryz.prog md Tryz.f136 0)))) := rfl
theorem t137 (old : Old) : (Cx old).T 137 = some (.fn (gE 42 71 (rG (cFn Tryz.prog md Tryz.f137 0)))) := rfl
theorem t138 (old : Old) : (Cx old).T 138 = some (.fn (gE 45 71 (rG (cFn Tryz.prog md Tryz.f138 0)))) := rfl
theorem t139 (old : Old) : (Cx old).T 139 = some (.fn (gE 48 71 (rG (cFn Tryz.prog md Tryz.f139 0)))) := rfl
theorem t140 (old : Old) : (Cx old).T 140 = some (.fn (gE 51 71 (rG (cFn Tryz.prog md Tryz.f140 0)))) := rfl
theorem t141 (old : Old) : (Cx old).T 141 = some (.fn (gE 54 71 (rG (cFn Tryz.prog md Tryz.f141 0)))) := rfl
theorem t142 (old : Old) : (Cx old).T 142 = some (.fn (gE 57 71 (rG (cFn Tryz.prog md Tryz.f142 0)))) := rfl
theorem t143 (old : Old) : (Cx old).T 143 = some (.fn (gE 60 71 (rG (cFn Tryz.prog md Tryz.f143 0)))) := rfl
theorem t144 (old : Old) : (Cx old).T 144 = some (.fn (gE 63 71 (rG (cFn Tryz.prog md Tryz.f144 0)))) := rfl
theorem t145 (old : Old) : (Cx old).T 145 = some (.fn (gE 66 71 (rG (cFn Tryz.prog md Tryz.f145 0)))) := rfl
theorem t146 (old : Old) : (Cx old).T 146 = some (.fn (gE 69 71 (rG (cFn Tryz.prog md Tryz.f146 0)))) := rfl
theorem t184 (old : Old) : (Cx old).T 184 = some (.ext (.nop 0)) := rfl
theorem t185 (old : Old) : (Cx old).T 185 = some (.ext .cas32) := rfl
theorem t186 (old : Old) : (Cx old).T 186 = some (.ext (.nop 0)) := rfl
theorem t187 (old : Old) : (Cx old).T 187 = some (.ext (.nop 1)) := rfl
theorem t189 (old : Old) : (Cx old).T 189 = some (.ext (.nop 1)) := rfl
theorem t190 (old : Old) : (Cx old).T 190 = some (.ext .add32) := rfl
theorem T_LDig (old : Old) : Tab_LDig (Cx old) where
  h180 := t180 old
  h230 := t230 old
  h253 := t253 old
  h108 := t108 old
  h63 := t63 old
  h61 := t61 old
  h62 := t62 old
  h57 := t57 old
  h107 := t107 old
  h109 := t109 old
  h17 := t17 old
  h20 := t20 old
theorem T_LLog (old : Old) : Tab_LLog (Cx old) where
  h74 := t74 old
  h75 := t75 old
  h112 := t112 old
  h113 := t113 old
  h84 := t84 old
  h42 := t42 old
  h148 := t148 old
  h157 := t157 old
  h93 := t93 old
  h158 := t158 old
  h159 := t159 old
  h160 := t160 old
  h161 := t161 old
  h85 := t85 old
  h86 := t86 old
  h151 := t151 old
  h114 := t114 old
  h216 := t216 old
  h43 := t43 old
  h45 := t45 old
  h87 := t87 old
  h115 := t115 old
  h25 := t25 old
  h67 := t67 old
  h68 := t68 old
  h26 := t26 old
  h69 := t69 old
  h30 := t30 old
  h72 := t72 old
  h56 := t56 old
  h106 := t106 old
  h12 := t12 old
  h53 := t53 old
  h14 := t14 old
  h35 := t35 old
  h46 := t46 old
  x184 := t184 old
  x185 := t185 old
  x186 := t186 old
  x187 := t187 old
  x189 := t189 old
  x190 := t190 old
theorem T_LLaw (old : Old) : Tab_LLaw (Cx old) where
  h11 := t11 old
  h27 := t27 old
  h70 := t70 old
  h39 := t39 old
  h71 := t71 old
  h28 := t28 old
  h29 := t29 old
  h24 := t24 old
  h23 := t23 old
theorem T_LTake (old : Old) : Tab_LTake (Cx old) where
  h3 := t3 old
  h13 := t13 old
  h15 := t15 old
  h16 := t16 old
  h18 := t18 old
  h19 := t19 old
  h21 := t21 old
  h22 := t22 old
  h54 := t54 old
  h55 := t55 old
  h58 := t58 old
  h59 := t59 old
  h60 := t60 old
  h64 := t64 old
  h65 := t65 old
  h66 := t66 old
  h110 := t110 old
  h111 := t111 old
  h181 := t181 old
  h182 := t182 old
  h183 := t183 old
  h105 := t105 old
theorem T_LForm (old : Old) : Tab_LForm (Cx old) where
  h8 := t8 old
  h37 := t37 old
  h38 := t38 old
  h76 := t76 old
  h77 := t77 old
  h78 := t78 old
  h79 := t79 old
theorem T_LBook (old : Old) : Tab_LBook (Cx old) where
  h40 := t40 old
  h41 := t41 old
  h80 := t80 old
  h81 := t81 old
  h82 := t82 old
  h83 := t83 old
  h116 := t116 old
  h123 := t123 old
theorem T_LEmp (old : Old) : Tab_LEmp (Cx old) where

  e117 := ⟨_, t117 old⟩

  e118 := ⟨_, t118 old⟩

  e119 := ⟨_, t119 old⟩

  e120 := ⟨_, t120 old⟩

  e121 := ⟨_, t121 old⟩

  e122 := ⟨_, t122 old⟩

  e124 := ⟨_, t124 old⟩

  e125 := ⟨_, t125 old⟩

  e126 := ⟨_, t126 old⟩

  e127 := ⟨_, t127 old⟩

  e128 := ⟨_, t128 old⟩

  e129 := ⟨_, t129 old⟩

  e130 := ⟨_, t130 old⟩

  e131 := ⟨_, t131 old⟩

  e132 := ⟨_, t132 old⟩

  e133 := ⟨_, t133 old⟩

  e134 := ⟨_, t134 old⟩

  e135 := ⟨_, t135 old⟩

  e136 := ⟨_, t136 old⟩

  e137 := ⟨_, t137 old⟩

  e138 := ⟨_, t138 old⟩

  e139 := ⟨_, t139 old⟩

  e140 := ⟨_, t140 old⟩

  e141 := ⟨_, t141 old⟩

  e142 := ⟨_, t142 old⟩

  e143 := ⟨_, t143 old⟩

  e144 := ⟨_, t144 old⟩

  e145 := ⟨_, t145 old⟩

  e146 := ⟨_, t146 old⟩
theorem pureOk (old : Old) : ∀ f, md f = true → ∃ fn, (Cx old).T f = some (.fn fn) ∧ 2 ≤ fn.mode := by
  intro f hf
  have : f = 12 ∨ f = 13 ∨ f = 14 ∨ f = 15 ∨ f = 16 ∨ f = 17 ∨ f = 18 ∨ f = 20 ∨ f = 21 ∨ f = 22 ∨ f = 23 ∨ f = 29 ∨ f = 39 ∨ f = 54 ∨ f = 55 ∨ f = 56 ∨ f = 57 ∨ f = 58 ∨ f = 59 ∨ f = 60 ∨ f = 63 ∨ f = 64 ∨ f = 68 ∨ f = 105 ∨ f = 106 ∨ f = 107 ∨ f = 111 ∨ f = 147 ∨ f = 157 ∨ f = 181 ∨ f = 182 ∨ f = 183 ∨ f = 216 ∨ f = 230 ∨ f = 253 := by simpa [md] using hf
  rcases this with rfl | rfl | rfl | rfl | rfl | rfl | rfl | rfl | rfl | rfl | rfl | rfl | rfl | rfl | rfl | rfl | rfl | rfl | rfl | rfl | rfl | rfl | rfl | rfl | rfl | rfl | rfl | rfl | rfl | rfl | rfl | rfl | rfl | rfl | rfl
  · exact ⟨a12, t12 old, by decide⟩
  · exact ⟨a13, t13 old, by decide⟩
  · exact ⟨a14, t14 old, by decide⟩
  · exact ⟨a15, t15 old, by decide⟩
  · exact ⟨a16, t16 old, by decide⟩
  · exact ⟨a17, t17 old, by decide⟩
  · exact ⟨a18, t18 old, by decide⟩
  · exact ⟨a20, t20 old, by decide⟩
  · exact ⟨a21, t21 old, by decide⟩
  · exact ⟨a22, t22 old, by decide⟩
  · exact ⟨a23, t23 old, by decide⟩
  · exact ⟨a29, t29 old, by decide⟩
  · exact ⟨a39, t39 old, by decide⟩
  · exact ⟨a54, t54 old, by decide⟩
  · exact ⟨a55, t55 old, by decide⟩
  · exact ⟨a56, t56 old, by decide⟩
  · exact ⟨a57, t57 old, by decide⟩
  · exact ⟨a58, t58 old, by decide⟩
  · exact ⟨a59, t59 old, by decide⟩
  · exact ⟨a60, t60 old, by decide⟩
  · exact ⟨a63, t63 old, by decide⟩
  · exact ⟨a64, t64 old, by decide⟩
  · exact ⟨a68, t68 old, by decide⟩
  · exact ⟨a105, t105 old, by decide⟩
  · exact ⟨a106, t106 old, by decide⟩
  · exact ⟨a107, t107 old, by decide⟩
  · exact ⟨a111, t111 old, by decide⟩
  · exact ⟨a147, t147 old, by decide⟩
  · exact ⟨a157, t157 old, by decide⟩
  · exact ⟨a181, t181 old, by decide⟩
  · exact ⟨a182, t182 old, by decide⟩
  · exact ⟨a183, t183 old, by decide⟩
  · exact ⟨a216, t216 old, by decide⟩
  · exact ⟨a230, t230 old, by decide⟩
  · exact ⟨a253, t253 old, by decide⟩
theorem envOk (W : World) : Env Tryz.prog md (Cx (oldOf W)) W where
  hold := oldOf_ok W
  lies := liesOk _
  mix := mixed
  fn := fun f fn h => look2_all (Q := Good (Cx (oldOf W))) (all _) (v := .fn fn) (by rw [← Tx (oldOf W)]; exact h)
  ext := fun f e h => look2_all (Q := Good (Cx (oldOf W))) (all _) (v := .ext e) (by rw [← Tx (oldOf W)]; exact h)
  meth := fun ty name f h => by rw [methOk] at h; cases h
  pure := pureOk _
end Go.Proofs.YtecbgdnoblhldaaGreatDoor.fm

/-
  Parts of a proof: an abstract interpreter of the model's code, and what the functions come to.
-/
import Derived.Test.YtmamikjllokmiaaGreatDoorAi08
import Derived.Test.YtmamikjllokmiaaGreatDoorChecked
import Derived.KernelRfl
set_option linter.unusedVariables false
set_option linter.unusedSimpArgs false
set_option linter.unnecessarySimpa false
/-
  The functions are those of the seat's program: printed by wip/gen/mkS.py.
-/
namespace Go.Ai
def fmiT : List (Nat × Nat) := [(3, 1), (9, 2), (4, 3), (13, 4), (5, 5), (56, 6), (16, 7), (55, 8), (38, 9), (87, 10), (64, 11), (86, 12), (65, 13), (84, 14), (73, 15), (102, 16), (89, 17), (10, 18), (74, 19), (32, 20), (50, 21), (7, 22), (80, 23), (52, 24), (57, 26), (6, 27), (8, 28), (17, 29), (21, 30), (11, 31), (20, 32), (12, 33), (90, 34), (26, 35), (35, 36), (14, 37), (25, 38), (15, 39), (75, 40), (18, 41), (46, 42), (43, 43), (76, 44), (19, 45), (27, 47), (24, 49), (44, 51), (22, 53), (23, 55), (45, 57), (47, 59), (48, 61), (77, 63), (49, 65), (79, 67), (78, 69), (29, 71), (30, 73), (31, 75), (51, 77), (81, 79), (53, 81), (85, 83), (58, 85), (101, 87), (113, 89), (33, 91), (37, 93), (34, 95), (60, 97), (59, 99), (88, 101), (36, 103), (63, 105), (54, 107), (83, 109), (82, 111), (28, 113), (39, 115), (41, 117), (40, 119), (61, 121), (62, 123), (104, 125)]
def fmiS (f : Nat) : Option Nat := lookN fmiT f
def fmS (g : Nat) : Nat := backN fmiT g
theorem ok1 : FnOK Go.Proofs.Tryz.prog fmS fmiS (1, F1) := ⟨Go.Proofs.Tryz.f3, F1, by kernel_rfl, by kernel_rfl, by kernel_rfl, fun _ => rfl⟩
theorem ok2 : FnOK Go.Proofs.Tryz.prog fmS fmiS (2, F2) := ⟨Go.Proofs.Tryz.f9, F2, by kernel_rfl, by kernel_rfl, by kernel_rfl, fun h => nomatch h⟩
theorem ok3 : FnOK Go.Proofs.Tryz.prog fmS fmiS (3, F3) := ⟨Go.Proofs.Tryz.f4, F3, by kernel_rfl, by kernel_rfl, by kernel_rfl, fun _ => rfl⟩
theorem ok4 : FnOK Go.Proofs.Tryz.prog fmS fmiS (4, F4) := ⟨Go.Proofs.Tryz.f13, F4, by kernel_rfl, by kernel_rfl, by kernel_rfl, fun h => nomatch h⟩
theorem ok5 : FnOK Go.Proofs.Tryz.prog fmS fmiS (5, F5) := ⟨Go.Proofs.Tryz.f5, F5, by kernel_rfl, by kernel_rfl, by kernel_rfl, fun _ => rfl⟩
theorem ok6 : FnOK Go.Proofs.Tryz.prog fmS fmiS (6, F6) := ⟨Go.Proofs.Tryz.f56, F6, by kernel_rfl, by kernel_rfl, by kernel_rfl, fun h => nomatch h⟩
theorem ok7 : FnOK Go.Proofs.Tryz.prog fmS fmiS (7, F7) := ⟨Go.Proofs.Tryz.f16, F7, by kernel_rfl, by kernel_rfl, by kernel_rfl, fun _ => rfl⟩
theorem ok8 : FnOK Go.Proofs.Tryz.prog fmS fmiS (8, F8) := ⟨Go.Proofs.Tryz.f55, F8, by kernel_rfl, by kernel_rfl, by kernel_rfl, fun h => nomatch h⟩
theorem ok9 : FnOK Go.Proofs.Tryz.prog fmS fmiS (9, F9) := ⟨Go.Proofs.Tryz.f38, F9, by kernel_rfl, by kernel_rfl, by kernel_rfl, fun _ => rfl⟩
theorem ok10 : FnOK Go.Proofs.Tryz.prog fmS fmiS (10, F10) := ⟨Go.Proofs.Tryz.f87, F10, by kernel_rfl, by kernel_rfl, by kernel_rfl, fun h => nomatch h⟩
theorem ok11 : FnOK Go.Proofs.Tryz.prog fmS fmiS (11, F11) := ⟨Go.Proofs.Tryz.f64, F11, by kernel_rfl, by kernel_rfl, by kernel_rfl, fun _ => rfl⟩
theorem ok12 : FnOK Go.Proofs.Tryz.prog fmS fmiS (12, F12) := ⟨Go.Proofs.Tryz.f86, F12, by kernel_rfl, by kernel_rfl, by kernel_rfl, fun h => nomatch h⟩
theorem ok13 : FnOK Go.Proofs.Tryz.prog fmS fmiS (13, F13) := ⟨Go.Proofs.Tryz.f65, F13, by kernel_rfl, by kernel_rfl, by kernel_rfl, fun _ => rfl⟩
theorem ok14 : FnOK Go.Proofs.Tryz.prog fmS fmiS (14, F14) := ⟨Go.Proofs.Tryz.f84, F14, by kernel_rfl, by kernel_rfl, by kernel_rfl, fun h => nomatch h⟩
theorem ok15 : FnOK Go.Proofs.Tryz.prog fmS fmiS (15, F15) := ⟨Go.Proofs.Tryz.f73, F15, by kernel_rfl, by kernel_rfl, by kernel_rfl, fun _ => rfl⟩
theorem ok16 : FnOK Go.Proofs.Tryz.prog fmS fmiS (16, F16) := ⟨Go.Proofs.Tryz.f102, F16, by kernel_rfl, by kernel_rfl, by kernel_rfl, fun h => nomatch h⟩
theorem ok17 : FnOK Go.Proofs.Tryz.prog fmS fmiS (17, F17) := ⟨Go.Proofs.Tryz.f89, F17, by kernel_rfl, by kernel_rfl, by kernel_rfl, fun _ => rfl⟩
theorem ok18 : FnOK Go.Proofs.Tryz.prog fmS fmiS (18, F18) := ⟨Go.Proofs.Tryz.f10, F18, by kernel_rfl, by kernel_rfl, by kernel_rfl, fun h => nomatch h⟩
theorem ok19 : FnOK Go.Proofs.Tryz.prog fmS fmiS (19, F19) := ⟨Go.Proofs.Tryz.f74, F19, by kernel_rfl, by kernel_rfl, by kernel_rfl, fun _ => rfl⟩
theorem ok20 : FnOK Go.Proofs.Tryz.prog fmS fmiS (20, F20) := ⟨Go.Proofs.Tryz.f32, F20, by kernel_rfl, by kernel_rfl, by kernel_rfl, fun h => nomatch h⟩
theorem ok21 : FnOK Go.Proofs.Tryz.prog fmS fmiS (21, F21) := ⟨Go.Proofs.Tryz.f50, F21, by kernel_rfl, by kernel_rfl, by kernel_rfl, fun _ => rfl⟩
theorem ok22 : FnOK Go.Proofs.Tryz.prog fmS fmiS (22, F22) := ⟨Go.Proofs.Tryz.f7, F22, by kernel_rfl, by kernel_rfl, by kernel_rfl, fun h => nomatch h⟩
theorem ok23 : FnOK Go.Proofs.Tryz.prog fmS fmiS (23, F23) := ⟨Go.Proofs.Tryz.f80, F23, by kernel_rfl, by kernel_rfl, by kernel_rfl, fun _ => rfl⟩
theorem ok24 : FnOK Go.Proofs.Tryz.prog fmS fmiS (24, F24) := ⟨Go.Proofs.Tryz.f52, F24, by kernel_rfl, by kernel_rfl, by kernel_rfl, fun h => nomatch h⟩
theorem ok26 : FnOK Go.Proofs.Tryz.prog fmS fmiS (26, F26) := ⟨Go.Proofs.Tryz.f57, F26, by kernel_rfl, by kernel_rfl, by kernel_rfl, fun h => nomatch h⟩
theorem ok27 : FnOK Go.Proofs.Tryz.prog fmS fmiS (27, F27) := ⟨Go.Proofs.Tryz.f6, F27, by kernel_rfl, by kernel_rfl, by kernel_rfl, fun _ => rfl⟩
theorem ok28 : FnOK Go.Proofs.Tryz.prog fmS fmiS (28, F28) := ⟨Go.Proofs.Tryz.f8, F28, by kernel_rfl, by kernel_rfl, by kernel_rfl, fun h => nomatch h⟩
theorem ok30 : FnOK Go.Proofs.Tryz.prog fmS fmiS (30, F30) := ⟨Go.Proofs.Tryz.f21, F30, by kernel_rfl, by kernel_rfl, by kernel_rfl, fun h => nomatch h⟩
theorem ok31 : FnOK Go.Proofs.Tryz.prog fmS fmiS (31, F31) := ⟨Go.Proofs.Tryz.f11, F31, by kernel_rfl, by kernel_rfl, by kernel_rfl, fun _ => rfl⟩
theorem ok32 : FnOK Go.Proofs.Tryz.prog fmS fmiS (32, F32) := ⟨Go.Proofs.Tryz.f20, F32, by kernel_rfl, by kernel_rfl, by kernel_rfl, fun h => nomatch h⟩
theorem ok33 : FnOK Go.Proofs.Tryz.prog fmS fmiS (33, F33) := ⟨Go.Proofs.Tryz.f12, F33, by kernel_rfl, by kernel_rfl, by kernel_rfl, fun _ => rfl⟩
theorem ok35 : FnOK Go.Proofs.Tryz.prog fmS fmiS (35, F35) := ⟨Go.Proofs.Tryz.f26, F35, by kernel_rfl, by kernel_rfl, by kernel_rfl, fun _ => rfl⟩
theorem ok36 : FnOK Go.Proofs.Tryz.prog fmS fmiS (36, F36) := ⟨Go.Proofs.Tryz.f35, F36, by kernel_rfl, by kernel_rfl, by kernel_rfl, fun h => nomatch h⟩
theorem ok37 : FnOK Go.Proofs.Tryz.prog fmS fmiS (37, F37) := ⟨Go.Proofs.Tryz.f14, F37, by kernel_rfl, by kernel_rfl, by kernel_rfl, fun _ => rfl⟩
theorem ok38 : FnOK Go.Proofs.Tryz.prog fmS fmiS (38, F38) := ⟨Go.Proofs.Tryz.f25, F38, by kernel_rfl, by kernel_rfl, by kernel_rfl, fun h => nomatch h⟩
theorem ok39 : FnOK Go.Proofs.Tryz.prog fmS fmiS (39, F39) := ⟨Go.Proofs.Tryz.f15, F39, by kernel_rfl, by kernel_rfl, by kernel_rfl, fun _ => rfl⟩
theorem ok40 : FnOK Go.Proofs.Tryz.prog fmS fmiS (40, F40) := ⟨Go.Proofs.Tryz.f75, F40, by kernel_rfl, by kernel_rfl, by kernel_rfl, fun h => nomatch h⟩
theorem ok41 : FnOK Go.Proofs.Tryz.prog fmS fmiS (41, F41) := ⟨Go.Proofs.Tryz.f18, F41, by kernel_rfl, by kernel_rfl, by kernel_rfl, fun _ => rfl⟩
theorem ok42 : FnOK Go.Proofs.Tryz.prog fmS fmiS (42, F42) := ⟨Go.Proofs.Tryz.f46, F42, by kernel_rfl, by kernel_rfl, by kernel_rfl, fun h => nomatch h⟩
theorem ok43 : FnOK Go.Proofs.Tryz.prog fmS fmiS (43, F43) := ⟨Go.Proofs.Tryz.f43, F43, by kernel_rfl, by kernel_rfl, by kernel_rfl, fun _ => rfl⟩
theorem ok45 : FnOK Go.Proofs.Tryz.prog fmS fmiS (45, F45) := ⟨Go.Proofs.Tryz.f19, F45, by kernel_rfl, by kernel_rfl, by kernel_rfl, fun _ => rfl⟩
theorem ok47 : FnOK Go.Proofs.Tryz.prog fmS fmiS (47, F47) := ⟨Go.Proofs.Tryz.f27, F47, by kernel_rfl, by kernel_rfl, by kernel_rfl, fun _ => rfl⟩
theorem ok49 : FnOK Go.Proofs.Tryz.prog fmS fmiS (49, F49) := ⟨Go.Proofs.Tryz.f24, F49, by kernel_rfl, by kernel_rfl, by kernel_rfl, fun _ => rfl⟩
theorem ok51 : FnOK Go.Proofs.Tryz.prog fmS fmiS (51, F51) := ⟨Go.Proofs.Tryz.f44, F51, by kernel_rfl, by kernel_rfl, by kernel_rfl, fun _ => rfl⟩
theorem ok53 : FnOK Go.Proofs.Tryz.prog fmS fmiS (53, F53) := ⟨Go.Proofs.Tryz.f22, F53, by kernel_rfl, by kernel_rfl, by kernel_rfl, fun _ => rfl⟩
theorem ok55 : FnOK Go.Proofs.Tryz.prog fmS fmiS (55, F55) := ⟨Go.Proofs.Tryz.f23, F55, by kernel_rfl, by kernel_rfl, by kernel_rfl, fun _ => rfl⟩
theorem ok57 : FnOK Go.Proofs.Tryz.prog fmS fmiS (57, F57) := ⟨Go.Proofs.Tryz.f45, F57, by kernel_rfl, by kernel_rfl, by kernel_rfl, fun _ => rfl⟩
theorem ok59 : FnOK Go.Proofs.Tryz.prog fmS fmiS (59, F59) := ⟨Go.Proofs.Tryz.f47, F59, by kernel_rfl, by kernel_rfl, by kernel_rfl, fun _ => rfl⟩
theorem ok61 : FnOK Go.Proofs.Tryz.prog fmS fmiS (61, F61) := ⟨Go.Proofs.Tryz.f48, F61, by kernel_rfl, by kernel_rfl, by kernel_rfl, fun _ => rfl⟩
theorem ok63 : FnOK Go.Proofs.Tryz.prog fmS fmiS (63, F63) := ⟨Go.Proofs.Tryz.f77, F63, by kernel_rfl, by kernel_rfl, by kernel_rfl, fun _ => rfl⟩
theorem ok65 : FnOK Go.Proofs.Tryz.prog fmS fmiS (65, F65) := ⟨Go.Proofs.Tryz.f49, F65, by kernel_rfl, by kernel_rfl, by kernel_rfl, fun _ => rfl⟩
theorem ok67 : FnOK Go.Proofs.Tryz.prog fmS fmiS (67, F67) := ⟨Go.Proofs.Tryz.f79, F67, by kernel_rfl, by kernel_rfl, by kernel_rfl, fun _ => rfl⟩
theorem ok69 : FnOK Go.Proofs.Tryz.prog fmS fmiS (69, F69) := ⟨Go.Proofs.Tryz.f78, F69, by kernel_rfl, by kernel_rfl, by kernel_rfl, fun _ => rfl⟩
theorem ok71 : FnOK Go.Proofs.Tryz.prog fmS fmiS (71, F71) := ⟨Go.Proofs.Tryz.f29, F71, by kernel_rfl, by kernel_rfl, by kernel_rfl, fun _ => rfl⟩
theorem ok73 : FnOK Go.Proofs.Tryz.prog fmS fmiS (73, F73) := ⟨Go.Proofs.Tryz.f30, F73, by kernel_rfl, by kernel_rfl, by kernel_rfl, fun _ => rfl⟩
theorem ok75 : FnOK Go.Proofs.Tryz.prog fmS fmiS (75, F75) := ⟨Go.Proofs.Tryz.f31, F75, by kernel_rfl, by kernel_rfl, by kernel_rfl, fun _ => rfl⟩
theorem ok77 : FnOK Go.Proofs.Tryz.prog fmS fmiS (77, F77) := ⟨Go.Proofs.Tryz.f51, F77, by kernel_rfl, by kernel_rfl, by kernel_rfl, fun _ => rfl⟩
theorem ok79 : FnOK Go.Proofs.Tryz.prog fmS fmiS (79, F79) := ⟨Go.Proofs.Tryz.f81, F79, by kernel_rfl, by kernel_rfl, by kernel_rfl, fun _ => rfl⟩
theorem ok81 : FnOK Go.Proofs.Tryz.prog fmS fmiS (81, F81) := ⟨Go.Proofs.Tryz.f53, F81, by kernel_rfl, by kernel_rfl, by kernel_rfl, fun _ => rfl⟩
theorem ok83 : FnOK Go.Proofs.Tryz.prog fmS fmiS (83, F83) := ⟨Go.Proofs.Tryz.f85, F83, by kernel_rfl, by kernel_rfl, by kernel_rfl, fun _ => rfl⟩
theorem ok85 : FnOK Go.Proofs.Tryz.prog fmS fmiS (85, F85) := ⟨Go.Proofs.Tryz.f58, F85, by kernel_rfl, by kernel_rfl, by kernel_rfl, fun _ => rfl⟩
theorem ok87 : FnOK Go.Proofs.Tryz.prog fmS fmiS (87, F87) := ⟨Go.Proofs.Tryz.f101, F87, by kernel_rfl, by kernel_rfl, by kernel_rfl, fun _ => rfl⟩
theorem ok89 : FnOK Go.Proofs.Tryz.prog fmS fmiS (89, F89) := ⟨Go.Proofs.Tryz.f113, F89, by kernel_rfl, by kernel_rfl, by kernel_rfl, fun _ => rfl⟩
theorem ok91 : FnOK Go.Proofs.Tryz.prog fmS fmiS (91, F91) := ⟨Go.Proofs.Tryz.f33, F91, by kernel_rfl, by kernel_rfl, by kernel_rfl, fun _ => rfl⟩
theorem ok93 : FnOK Go.Proofs.Tryz.prog fmS fmiS (93, F93) := ⟨Go.Proofs.Tryz.f37, F93, by kernel_rfl, by kernel_rfl, by kernel_rfl, fun _ => rfl⟩
theorem ok95 : FnOK Go.Proofs.Tryz.prog fmS fmiS (95, F95) := ⟨Go.Proofs.Tryz.f34, F95, by kernel_rfl, by kernel_rfl, by kernel_rfl, fun _ => rfl⟩
theorem ok97 : FnOK Go.Proofs.Tryz.prog fmS fmiS (97, F97) := ⟨Go.Proofs.Tryz.f60, F97, by kernel_rfl, by kernel_rfl, by kernel_rfl, fun _ => rfl⟩
theorem ok99 : FnOK Go.Proofs.Tryz.prog fmS fmiS (99, F99) := ⟨Go.Proofs.Tryz.f59, F99, by kernel_rfl, by kernel_rfl, by kernel_rfl, fun _ => rfl⟩
theorem ok101 : FnOK Go.Proofs.Tryz.prog fmS fmiS (101, F101) := ⟨Go.Proofs.Tryz.f88, F101, by kernel_rfl, by kernel_rfl, by kernel_rfl, fun _ => rfl⟩
theorem ok103 : FnOK Go.Proofs.Tryz.prog fmS fmiS (103, F103) := ⟨Go.Proofs.Tryz.f36, F103, by kernel_rfl, by kernel_rfl, by kernel_rfl, fun _ => rfl⟩
theorem ok105 : FnOK Go.Proofs.Tryz.prog fmS fmiS (105, F105) := ⟨Go.Proofs.Tryz.f63, F105, by kernel_rfl, by kernel_rfl, by kernel_rfl, fun _ => rfl⟩
theorem ok107 : FnOK Go.Proofs.Tryz.prog fmS fmiS (107, F107) := ⟨Go.Proofs.Tryz.f54, F107, by kernel_rfl, by kernel_rfl, by kernel_rfl, fun _ => rfl⟩
theorem ok109 : FnOK Go.Proofs.Tryz.prog fmS fmiS (109, F109) := ⟨Go.Proofs.Tryz.f83, F109, by kernel_rfl, by kernel_rfl, by kernel_rfl, fun _ => rfl⟩
theorem ok111 : FnOK Go.Proofs.Tryz.prog fmS fmiS (111, F111) := ⟨Go.Proofs.Tryz.f82, F111, by kernel_rfl, by kernel_rfl, by kernel_rfl, fun _ => rfl⟩
theorem ok113 : FnOK Go.Proofs.Tryz.prog fmS fmiS (113, F113) := ⟨Go.Proofs.Tryz.f28, F113, by kernel_rfl, by kernel_rfl, by kernel_rfl, fun _ => rfl⟩
theorem ok119 : FnOK Go.Proofs.Tryz.prog fmS fmiS (119, F119) := ⟨Go.Proofs.Tryz.f40, F119, by kernel_rfl, by kernel_rfl, by kernel_rfl, fun _ => rfl⟩
theorem ok121 : FnOK Go.Proofs.Tryz.prog fmS fmiS (121, F121) := ⟨Go.Proofs.Tryz.f61, F121, by kernel_rfl, by kernel_rfl, by kernel_rfl, fun _ => rfl⟩
theorem ok123 : FnOK Go.Proofs.Tryz.prog fmS fmiS (123, F123) := ⟨Go.Proofs.Tryz.f62, F123, by kernel_rfl, by kernel_rfl, by kernel_rfl, fun _ => rfl⟩
theorem okAll : ∀ p ∈ ST0, FnOK Go.Proofs.Tryz.prog fmS fmiS p := by
  refine List.forall_mem_cons.2 ⟨ok1, ?_⟩
  refine List.forall_mem_cons.2 ⟨ok2, ?_⟩
  refine List.forall_mem_cons.2 ⟨ok3, ?_⟩
  refine List.forall_mem_cons.2 ⟨ok4, ?_⟩
  refine List.forall_mem_cons.2 ⟨ok5, ?_⟩
  refine List.forall_mem_cons.2 ⟨ok6, ?_⟩
  refine List.forall_mem_cons.2 ⟨ok7, ?_⟩
  refine List.forall_mem_cons.2 ⟨ok8, ?_⟩
  refine List.forall_mem_cons.2 ⟨ok9, ?_⟩
  refine List.forall_mem_cons.2 ⟨ok10, ?_⟩
  refine List.forall_mem_cons.2 ⟨ok11, ?_⟩
  refine List.forall_mem_cons.2 ⟨ok12, ?_⟩
  refine List.forall_mem_cons.2 ⟨ok13, ?_⟩
  refine List.forall_mem_cons.2 ⟨ok14, ?_⟩
  refine List.forall_mem_cons.2 ⟨ok15, ?_⟩
  refine List.forall_mem_cons.2 ⟨ok16, ?_⟩
  refine List.forall_mem_cons.2 ⟨ok17, ?_⟩
  refine List.forall_mem_cons.2 ⟨ok18, ?_⟩
  refine List.forall_mem_cons.2 ⟨ok19, ?_⟩
  refine List.forall_mem_cons.2 ⟨ok20, ?_⟩
  refine List.forall_mem_cons.2 ⟨ok21, ?_⟩
  refine List.forall_mem_cons.2 ⟨ok22, ?_⟩
  refine List.forall_mem_cons.2 ⟨ok23, ?_⟩
  refine List.forall_mem_cons.2 ⟨ok24, ?_⟩
  refine List.forall_mem_cons.2 ⟨ok26, ?_⟩
  refine List.forall_mem_cons.2 ⟨ok27, ?_⟩
  refine List.forall_mem_cons.2 ⟨ok28, ?_⟩
  refine List.forall_mem_cons.2 ⟨ok30, ?_⟩
  refine List.forall_mem_cons.2 ⟨ok31, ?_⟩
  refine List.forall_mem_cons.2 ⟨ok32, ?_⟩
  refine List.forall_mem_cons.2 ⟨ok33, ?_⟩
  refine List.forall_mem_cons.2 ⟨ok35, ?_⟩
  refine List.forall_mem_cons.2 ⟨ok36, ?_⟩
  refine List.forall_mem_cons.2 ⟨ok37, ?_⟩
  refine List.forall_mem_cons.2 ⟨ok38, ?_⟩
  refine List.forall_mem_cons.2 ⟨ok39, ?_⟩
  refine List.forall_mem_cons.2 ⟨ok40, ?_⟩
  refine List.forall_mem_cons.2 ⟨ok41, ?_⟩
  refine List.forall_mem_cons.2 ⟨ok42, ?_⟩
  refine List.forall_mem_cons.2 ⟨ok43, ?_⟩
  refine List.forall_mem_cons.2 ⟨ok45, ?_⟩
  refine List.forall_mem_cons.2 ⟨ok47, ?_⟩
  refine List.forall_mem_cons.2 ⟨ok49, ?_⟩
  refine List.forall_mem_cons.2 ⟨ok51, ?_⟩
  refine List.forall_mem_cons.2 ⟨ok53, ?_⟩
  refine List.forall_mem_cons.2 ⟨ok55, ?_⟩
  refine List.forall_mem_cons.2 ⟨ok57, ?_⟩
  refine List.forall_mem_cons.2 ⟨ok59, ?_⟩
  refine List.forall_mem_cons.2 ⟨ok61, ?_⟩
  refine List.forall_mem_cons.2 ⟨ok63, ?_⟩
  refine List.forall_mem_cons.2 ⟨ok65, ?_⟩
  refine List.forall_mem_cons.2 ⟨ok67, ?_⟩
  refine List.forall_mem_cons.2 ⟨ok69, ?_⟩
  refine List.forall_mem_cons.2 ⟨ok71, ?_⟩
  refine List.forall_mem_cons.2 ⟨ok73, ?_⟩
  refine List.forall_mem_cons.2 ⟨ok75, ?_⟩
  refine List.forall_mem_cons.2 ⟨ok77, ?_⟩
  refine List.forall_mem_cons.2 ⟨ok79, ?_⟩
  refine List.forall_mem_cons.2 ⟨ok81, ?_⟩
  refine List.forall_mem_cons.2 ⟨ok83, ?_⟩
  refine List.forall_mem_cons.2 ⟨ok85, ?_⟩
  refine List.forall_mem_cons.2 ⟨ok87, ?_⟩
  refine List.forall_mem_cons.2 ⟨ok89, ?_⟩
  refine List.forall_mem_cons.2 ⟨ok91, ?_⟩
  refine List.forall_mem_cons.2 ⟨ok93, ?_⟩
  refine List.forall_mem_cons.2 ⟨ok95, ?_⟩
  refine List.forall_mem_cons.2 ⟨ok97, ?_⟩
  refine List.forall_mem_cons.2 ⟨ok99, ?_⟩
  refine List.forall_mem_cons.2 ⟨ok101, ?_⟩
  refine List.forall_mem_cons.2 ⟨ok103, ?_⟩
  refine List.forall_mem_cons.2 ⟨ok105, ?_⟩
  refine List.forall_mem_cons.2 ⟨ok107, ?_⟩
  refine List.forall_mem_cons.2 ⟨ok109, ?_⟩
  refine List.forall_mem_cons.2 ⟨ok111, ?_⟩
  refine List.forall_mem_cons.2 ⟨ok113, ?_⟩
  refine List.forall_mem_cons.2 ⟨ok119, ?_⟩
  refine List.forall_mem_cons.2 ⟨ok121, ?_⟩
  refine List.forall_mem_cons.2 ⟨ok123, ?_⟩
  exact fun p hp => nomatch hp
theorem mixedS : Go.Proofs.Tryz.prog.follows .mixedOrders = true := by kernel_rfl
theorem hfmS : ∀ f g, fmiS f = some g → fmS g = f := hfm_of (by kernel_rfl)
theorem ok34 : PrimOK Go.Proofs.Tryz.prog fmS 34 prim34 := prim34_ok mixedS hfmS ⟨Go.Proofs.Tryz.f90, F34, by kernel_rfl, by kernel_rfl, by kernel_rfl⟩
theorem okPrims : ∀ p ∈ PR0, PrimOK Go.Proofs.Tryz.prog fmS p.1 p.2 ∧ (pureId p.1 = true → ∀ bar args h v h', p.2 bar args h = some (v, h') → h' = h) := by
  refine List.forall_mem_cons.2 ⟨⟨ok34, fun hf => nomatch hf⟩, ?_⟩
  exact fun p hp => nomatch hp
theorem progOK : ProgOK Go.Proofs.Tryz.prog fmS fmiS S0 := progOK_of mixedS hfmS okAll okPrims
end Go.Ai
/-
  The examples of FanEnds's package: they run, by the kernel.
-/
namespace Go.Ai

theorem sp3 : run S0 0 3 [] [] = some (.bool true, []) :=
  run_some (n := 60) (by kernel_rfl)
end Go.Ai
/-
  What the functions come to: FanEnds.
-/
namespace Go.Ai
set_option linter.unusedSimpArgs false
set_option linter.unusedVariables false

theorem sp28o (bar : Nat) (h : AHeap) (l : List Ent) (hl : l.length < 20) (hle : l.length ≤ LIM) (r : Slc Rep) (hb : bar ≤ h.length) : ∃ u : Slc Ent, u.l = storeL l ∧
    run S0 bar 28 [(Slc.ofN l hle).av encEnt 3, r.av encRep 2] h = some (.hptr h.length 1 0 0, h ++ [repBlk (cloneR r) 0 u]) := by
  rw [ofN_av]
  by_cases q : l = []
  · subst q
    refine ⟨.nil, rfl, ?_⟩
    rw [if_pos rfl]
    exact sp28_nil bar h r
  · rw [if_neg q]
    exact sp28 bar h l none r hb q hl

theorem rangeS_congr (a : Ask) (r : Rep) {u u' : Slc Ent} (h : u.l = u'.l) : rangeS a r u = rangeS a r u' := by
  unfold rangeS
  have : ∀ (l l' : List Ent) (h1 : l.length ≤ LIM) (h2 : l'.length ≤ LIM), l = l' → Slc.ofN l h1 = Slc.ofN l' h2 := by
    intro l l' h1 h2 e
    subst e
    rfl
  apply this
  rw [h]
theorem moreR_congr (a : Ask) (r : Rep) {u u' : Slc Ent} (h : u.l = u'.l) : moreR a r u = moreR a r u' := by
  unfold moreR
  rw [h]

section
variable (s0 s1 : Slc Item) (b2 b3 : UInt8) (asc : Bool)

def few1 (b2 : UInt8) : Int := 1 + (b2.toNat : Int).tmod 5
def most1 (b3 : UInt8) : Int := 1 + (b3.toNat : Int).tmod 6
def ask1 (b3 : UInt8) (asc : Bool) : Ask := ⟨-12, 12, asc, most1 b3, false, ⟨0, .nil, []⟩⟩

theorem few1_w (b2 : UInt8) : IntKind.i64.wrap (1 + IntKind.i64.wrap ((b2.toNat : Int).tmod 5)) = few1 b2 := by
  have h1 := Int.tmod_nonneg (a := (b2.toNat : Int)) 5 (by omega)
  have h2 := Int.tmod_lt_of_pos (b2.toNat : Int) (show (0 : Int) < 5 by decide)
  unfold few1
  generalize (b2.toNat : Int).tmod 5 = k at *
  rw [wrap64 (x := k) (by omega) (by omega), wrap64 (by omega) (by omega)]
theorem most1_w (b3 : UInt8) : IntKind.i64.wrap (1 + IntKind.i64.wrap ((b3.toNat : Int).tmod 6)) = most1 b3 := by
  have h1 := Int.tmod_nonneg (a := (b3.toNat : Int)) 6 (by omega)
  have h2 := Int.tmod_lt_of_pos (b3.toNat : Int) (show (0 : Int) < 6 by decide)
  unfold most1
  generalize (b3.toNat : Int).tmod 6 = k at *
  rw [wrap64 (x := k) (by omega) (by omega), wrap64 (by omega) (by omega)]

theorem ask1_right (b3 : UInt8) (asc : Bool) : rightA (ask1 b3 asc) = true := by
  have h1 := Int.tmod_nonneg (a := (b3.toNat : Int)) 6 (by omega)
  have h2 : 0 < most1 b3 := by unfold most1; omega
  simp [rightA, ask1, h2]
end

theorem app_two (N : Nat) (H : AHeap) (hN : H.length = N) (A B : List (List AV)) (hl : A.length + B.length ≤ LIM) : ∃ H1 H2, aappend 3 0 H .nils A = some (genAV N 3 A, H1) ∧ aappend 3 0 H1 (genAV N 3 A) B = some (genAV N 3 (A ++ B), H2) ∧ RSl H2 3 (genAV N 3 (A ++ B)) (A ++ B) := by
  have e1 : aappend 3 0 H .nils A = some (genAV N 3 A, if A = [] then H else H ++ [.row 3 A]) := by
    have hA : A.length ≤ LIM := by omega
    by_cases q : A = []
    · subst q; simp [aappend, genAV]
    · simp [aappend, genAV, q, hA, hN]
  refine ⟨_, if A ++ B = [] then H else H ++ [.row 3 (A ++ B)], e1, ?_, gen_rsl _ _ _ _ (fun q => by simp only [q, if_false]; rw [← hN]; exact get_last _ _)⟩
  by_cases q : A = []
  · subst q
    have hB : B.length ≤ LIM := by omega
    by_cases q2 : B = []
    · subst q2; simp [aappend, genAV]
    · simp [aappend, genAV, q2, hB, hN]
  · by_cases q2 : B = []
    · subst q2
      have hr : heapRow (H ++ [.row 3 A]) N A.length 3 = some A := heapRow_eq (by rw [← hN]; exact get_last _ _) rfl
      simp [aappend, genAV, q, hr]
    · have hr : heapRow (H ++ [.row 3 A]) N A.length 3 = some A := heapRow_eq (by rw [← hN]; exact get_last _ _) rfl
      have hB : 0 < B.length := List.length_pos_iff.2 q2
      have hs : (H ++ [ABlk.row 3 A]).set N (.row 3 (A ++ B)) = H ++ [.row 3 (A ++ B)] := by rw [← hN, List.set_append_right _ _ (Nat.le_refl _)]; simp
      have g1 : ¬ (A.length + B.length ≤ A.length) := by omega
      simp [aappend, genAV, q, q2, hr, hl, g1, hs]

/-- the part behind the examples -/
theorem sp1 (bar : Nat) (s0 s1 : Slc Item) (b2 b3 : UInt8) (asc : Bool) :
    run S0 bar 1 [s0.av encItem 7, s1.av encItem 7, .int .u8 (b2.toNat : Int), .int .u8 (b3.toNat : Int), .bool asc] [] = some (.bool true, []) := by
  have hLIM : LIM = 4294967296 := rfl
  have h3 := sp3
  have h5a : run S0 0 5 [s0.av encItem 7, .int .i64 8] [] = _ := sp5 0 s0 8 (by omega) []
  have h5b : run S0 0 5 [s1.av encItem 7, .int .i64 8] [] = _ := sp5 0 s1 8 (by omega) []
  have hL1 := itemsL_len s0.l 8
  have hL2 := itemsL_len s1.l 8
  unfold itemsS at h5a h5b
  -- the replicas
  have hr1 : 1 ≤ LIM := by omega
  obtain ⟨u1, hu1, h28a⟩ := sp28o 0 [] (itemsL s0.l 8) (by omega) (by omega) (.mk [⟨false, few1 b2⟩] (some 1) hr1) (by omega)
  obtain ⟨u2, hu2, h28b⟩ := sp28o 0 [repBlk (cloneR (.mk [⟨false, few1 b2⟩] (some 1) hr1)) 0 u1] (itemsL s1.l 8) (by omega) (by omega) .nil (by omega)
  let R1 : Slc Rep := cloneR (.mk [⟨false, few1 b2⟩] (some 1) hr1)
  have hR1 : cloneR (.mk [⟨false, few1 b2⟩] (some 1) hr1) = R1 := rfl
  have hR1l : R1.l = [⟨false, few1 b2⟩] := rfl
  have hR2 : cloneR .nil = .nil := rfl
  rw [hR1] at h28a h28b
  rw [hR2] at h28b
  clear_value R1
  simp only [List.nil_append, List.length_nil, List.length_cons, List.singleton_append, Nat.zero_add] at h28a h28b
  have h22 := sp22 0 [repBlk R1 0 u1, repBlk .nil 0 u2] 0 1 (by simp) (some 2) (by simp) (by simp)
  simp only [List.length_cons, List.length_nil, Nat.zero_add, List.cons_append, List.nil_append] at h22
  -- what is asked
  have ha := ask1_right b3 asc
  have haasc : (ask1 b3 asc).asc = asc := rfl
  let x1 : Rp := ⟨0, R1, 0, u1⟩
  let x2 : Rp := ⟨1, .nil, 0, u2⟩
  have hx1 : x1.step = ⟨false, few1 b2⟩ := by simp [x1, Rp.step, stepR, hR1l]
  have hx2 : x2.step = ⟨false, 0⟩ := rfl
  have hul1 : u1.l.length ≤ 8 := by rw [hu1]; exact Nat.le_trans (storeL_len _) hL1
  have hul2 : u2.l.length ≤ 8 := by rw [hu2]; exact Nat.le_trans (storeL_len _) hL2
  have hsrt1 : u1.l.Pairwise (LeE true) := by rw [hu1]; exact storeL_sorted _
  have hsrt2 : u2.l.Pairwise (LeE true) := by rw [hu2]; exact storeL_sorted _
  -- Fetch
  have hne1 : moreR (ask1 b3 asc) ⟨false, few1 b2⟩ u1 = true → (rangeS (ask1 b3 asc) ⟨false, few1 b2⟩ u1).l ≠ [] := fun hm => rangeS_ne ha hm
  have hne2 : moreR (ask1 b3 asc) ⟨false, 0⟩ u2 = true → (rangeS (ask1 b3 asc) ⟨false, 0⟩ u2).l ≠ [] := fun hm => rangeS_ne ha hm
  have hd1 := rangeS_len (ask1 b3 asc) ⟨false, few1 b2⟩ u1
  have hd2 := rangeS_len (ask1 b3 asc) ⟨false, 0⟩ u2
  have hst : ([0, 1].filterMap (fun j => [x1, x2][j]?)).foldl (fetS (ask1 b3 asc)) ([], []) = ([rangeS (ask1 b3 asc) ⟨false, few1 b2⟩ u1, rangeS (ask1 b3 asc) ⟨false, 0⟩ u2],
      (if moreR (ask1 b3 asc) ⟨false, few1 b2⟩ u1 = true then (rangeS (ask1 b3 asc) ⟨false, few1 b2⟩ u1).l.getLast?.toList else []) ++ (if moreR (ask1 b3 asc) ⟨false, 0⟩ u2 = true then (rangeS (ask1 b3 asc) ⟨false, 0⟩ u2).l.getLast?.toList else [])) := by
    show fetS (ask1 b3 asc) (fetS (ask1 b3 asc) ([], []) x1) x2 = _
    unfold fetS
    rw [hx1, hx2]
    simp [x1, x2]
  have h2 := sp2 0 [repBlk R1 0 u1, repBlk .nil 0 u2, fanBlk 0 1 (.isl [[.int .i64 0], [.int .i64 1]] 1 none)] 2 [x1, x2] [0, 1] (ask1 b3 asc) ha (by omega) (by simp) rfl
    (fun x hx => by
      have hx : x = x1 ∨ x = x2 := by simpa using hx
      rcases hx with rfl | rfl
      · exact ⟨rfl, by omega, by simp [x1], by simp [x1, LIM]⟩
      · exact ⟨rfl, by omega, by simp [x2], by simp [x2, LIM]⟩)
    (by simp [x1, x2]) (by simp [x1, x2]; omega) (fun s hs => by
      rw [hst] at hs
      rw [haasc]
      have hs : s = rangeS (ask1 b3 asc) ⟨false, few1 b2⟩ u1 ∨ s = rangeS (ask1 b3 asc) ⟨false, 0⟩ u2 := by simpa using hs
      rcases hs with rfl | rfl
      · exact rangeS_adj (ask1 b3 asc) _ u1 hsrt1
      · exact rangeS_adj (ask1 b3 asc) _ u2 hsrt2)
  rw [hst] at h2
  have hnx : nextH [repBlk R1 0 u1, repBlk .nil 0 u2, fanBlk 0 1 (.isl [[.int .i64 0], [.int .i64 1]] 1 none)] ([0, 1].filterMap (fun j => [x1, x2][j]?)) = [repBlk R1 1 u1, repBlk .nil 1 u2, fanBlk 0 1 (.isl [[.int .i64 0], [.int .i64 1]] 1 none)] := rfl
  rw [hnx] at h2
  clear hnx
  obtain ⟨law1, law2, law3⟩ := fan_law asc _ _ _ _ hne1 hne2 _ rfl
  -- the replicas once more
  obtain ⟨v1, hv1, h28c⟩ := sp28o 0 [repBlk R1 1 u1, repBlk .nil 1 u2, fanBlk 0 1 (.isl [[.int .i64 0], [.int .i64 1]] 1 none)] (itemsL s0.l 8) (by omega) (by omega) (.mk [⟨false, few1 b2⟩] (some 1) hr1) (by omega)
  rw [hR1] at h28c
  have hsp1 : stepR R1 0 = ⟨false, few1 b2⟩ := by simp [stepR, hR1l]
  have h18c := sp18 0 [repBlk R1 1 u1, repBlk .nil 1 u2, fanBlk 0 1 (.isl [[.int .i64 0], [.int .i64 1]] 1 none), repBlk R1 0 v1] 3 0 R1 v1 (ask1 b3 asc) (by omega) (by simp [LIM]) rfl ha
  rw [hsp1, rangeS_congr _ _ (hv1.trans hu1.symm), moreR_congr _ _ (hv1.trans hu1.symm)] at h18c
  obtain ⟨v2, hv2, h28d⟩ := sp28o 0 [repBlk R1 1 u1, repBlk .nil 1 u2, fanBlk 0 1 (.isl [[.int .i64 0], [.int .i64 1]] 1 none), repBlk R1 1 v1] (itemsL s1.l 8) (by omega) (by omega) .nil (by omega)
  rw [hR2] at h28d
  have hsp2 : stepR .nil 0 = ⟨false, 0⟩ := rfl
  have h18d := sp18 0 [repBlk R1 1 u1, repBlk .nil 1 u2, fanBlk 0 1 (.isl [[.int .i64 0], [.int .i64 1]] 1 none), repBlk R1 1 v1, repBlk .nil 0 v2] 4 0 .nil v2 (ask1 b3 asc) (by omega) (by simp [LIM]) rfl ha
  rw [hsp2, rangeS_congr _ _ (hv2.trans hu2.symm), moreR_congr _ _ (hv2.trans hu2.symm)] at h18d
  clear hst hv1 hv2 hx1 hx2 hsp1 hsp2
  clear_value x1 x2
  simp only [Bool.false_eq_true, if_false] at h18c h18d
  generalize rangeS (ask1 b3 asc) ⟨false, few1 b2⟩ u1 = d1 at *
  generalize rangeS (ask1 b3 asc) ⟨false, 0⟩ u2 = d2 at *
  generalize moreR (ask1 b3 asc) ⟨false, few1 b2⟩ u1 = m1 at *
  generalize moreR (ask1 b3 asc) ⟨false, 0⟩ u2 = m2 at *
  generalize Slc.ofN (itemsL s0.l 8) _ = I1 at *
  generalize Slc.ofN (itemsL s1.l 8) _ = I2 at *
  -- what is told
  unfold fetchV at h2
  rw [if_neg (by simp)] at h2
  rw [haasc] at h2
  generalize fetchF asc _ = FV at *
  obtain ⟨all, more⟩ := FV
  dsimp only at h2 law1 law2 law3
  have hSle : all.length ≤ LIM := by omega
  have hSv := ofN_av encEnt 3 all hSle
  have hSl := Slc.ofN_l all hSle
  rw [← hSv] at h2
  generalize Slc.ofN all hSle = SA at *
  subst law1
  -- all that they have
  obtain ⟨H1, H2, k1, k2, R⟩ := app_two 5 [repBlk R1 1 u1, repBlk .nil 1 u2, fanBlk 0 1 (.isl [[.int .i64 0], [.int .i64 1]] 1 none), repBlk R1 1 v1, repBlk .nil 1 v2] rfl (d1.l.map encEnt) (d2.l.map encEnt) (by simp; omega)
  rw [← List.map_append] at k2 R
  have hlp := loop1x 0 H2 asc SA d1 d2 (m1 || m2) m1 m2 _ (d1.l ++ d2.l) R (by simp; omega) (d1.l ++ d2.l) 0 rfl (Nat.zero_le _) (fun x hx => by rw [hSl]; exact law3 x (List.mem_append.1 hx))
  have hDl : (d1.l ++ d2.l).length = d1.l.length + d2.l.length := by simp
  rw [← hSl] at law2
  have hfin : ((SA.l.length : Nat) : Int) ≤ (((d1.l ++ d2.l).map encEnt).length : Nat) := by simp; omega
  rw [show (d1.l ++ d2.l).length = ((d1.l ++ d2.l).map encEnt).length by simp] at hlp
  generalize (d1.l ++ d2.l).map encEnt = DR at *
  have eA : encAsk (ask1 b3 asc) = [.int .i64 (-12), .int .i64 12, .bool asc, .int .i64 (most1 b3), .bool false, .int .i64 0, .nils, .str []] := rfl
  have eR : (Slc.mk [(⟨false, few1 b2⟩ : Rep)] (some 1) hr1).av encRep 2 = .isl [[.bool false, .int .i64 (few1 b2)]] 2 (some 1) := rfl
  have eN : (Slc.nil : Slc Rep).av encRep 2 = .nils := rfl
  rw [eA] at h2 h18c h18d
  rw [eR] at h28a h28c
  rw [eN] at h28b h28d
  have w1 := few1_w b2
  have w2 := most1_w b3
  generalize few1 b2 = FEW at *
  generalize most1 b3 = MOST at *
  simp only [List.length_nil, List.length_cons, List.cons_append, List.nil_append, Nat.zero_add, Int.natCast_zero, Int.natCast_one, Nat.reduceAdd, List.set_cons_succ, List.set_cons_zero] at h28a h28b h28c h28d h18c h18d h22 h2 hlp
  simp only [env1] at hlp
  refine run_code (sf := F1) rfl ?_
  rw [evBody_eq _ _ _ _ _ rfl]
  simp [h3, h5a, h5b, w1, w2, abuild, abslice, h28a, h28b, h22, aeqK, h2, h28c, h18c, h28d, h18d, k1, k2, hlp, hfin]
  cases m1 <;> simp [eqb_self, hfin]
end Go.Ai

/- The statement StrainPlans: whatever its arguments, the call returns true, and each argument reads as before. No condition beside the row's own. -/
import Derived.Test.YtjmjifbnckecjaaGreatDoorW4
import Derived.Test.YtjmjifbnckecjaaGreatDoorStrainPlansL8
import Derived.Test.YtjmjifbnckecjaaGreatDoorProg
import Derived.Test.YtjmjifbnckecjaaGreatDoorTie
import Derived.Test.YtjmjifbnckecjaaGreatDoorCards
import Derived.ProofKit
import Derived.LaidMore
import Derived.OpenShut
import Derived.Stop.Joined
import Derived.SevenTiedAt
set_option linter.all false
set_option maxRecDepth 100000
namespace Go.Pm
open Go Go.Pm.Ac Go.Proofs
def tab : List (Nat × Fn × Nat) := [
 (201, Ac.e1Y, 3),
 (101, Ac.a5i, 4),
 (102, Ac.e1K, 5),
 (103, Ac.a6B, 6),
 (104, Ac.e1Z, 7),
 (105, Ac.a1F, 8),
 (106, Ac.e1D, 9),
 (107, Ac.a4U, 10),
 (108, Ac.e1O, 11),
 (109, Ac.a3x, 12),
 (110, Ac.a3M, 13),
 (111, Ac.a3C, 14),
 (112, Ac.a7d, 15),
 (113, Ac.a3V, 16),
 (114, Ac.d4I, 17),
 (115, Ac.e2k, 18),
 (116, Ac.e1R, 19),
 (117, Ac.a6w, 20),
 (118, Ac.a5M, 21),
 (119, Ac.d4H, 22),
 (120, Ac.e1S, 23),
 (121, Ac.a4h, 24),
 (122, Ac.a4I, 25),
 (123, Ac.a2j, 26),
 (124, Ac.e2g, 27),
 (125, Ac.e1Q, 28),
 (126, Ac.e1V, 29),
 (127, Ac.a4f, 30),
 (128, Ac.a5L, 31),
 (130, Ac.a0X, 33),
 (131, Ac.a5u, 34),
 (132, Ac.e2f, 35),
 (133, Ac.e1U, 36),
 (135, Ac.a2u, 37),
 (134, Ac.a4W, 38),
 (136, Ac.a4e, 39),
 (137, Ac.a2i, 40),
 (138, Ac.a1Z, 41),
 (33, Ac.a3N, 42),
 (30, Ac.a4A, 43),
 (139, Ac.a4c, 44),
 (140, Ac.a4b, 45),
 (141, Ac.a2t, 46),
 (143, Ac.a4l, 47),
 (142, Ac.a4z, 48),
 (23, Ac.a3l, 49),
 (144, Ac.a5P, 50),
 (145, Ac.a0N, 51),
 (146, Ac.a3U, 52),
 (147, Ac.d5d, 53),
 (148, Ac.e1L, 54),
 (149, Ac.d5g, 55),
 (150, Ac.a5Q, 56),
 (151, Ac.a5O, 57),
 (152, Ac.a6G, 58),
 (153, Ac.a5b, 59),
 (154, Ac.a5N, 60),
 (155, Ac.a1m, 61),
 (29, Ac.a2w, 62),
 (49, Ac.a2v, 63),
 (156, Ac.d5e, 64),
 (157, Ac.d5c, 65),
 (158, Ac.d4G, 66),
 (159, Ac.d5h, 67),
 (160, Ac.a5a, 68),
 (164, Ac.a5n, 69),
 (163, Ac.cmp_Compare_int, 70),
 (176, Ac.a0D, 71),
 (162, Ac.a1v, 72),
 (161, Ac.a5J, 73),
 (65, Ac.d2y, 74),
 (165, Ac.e2c, 75),
 (81, Ac.e2e, 76),
 (166, Ac.e1H, 77),
 (167, Ac.a4H, 78),
 (168, Ac.a4s, 79),
 (169, Ac.a4J, 80),
 (170, Ac.a1d, 81),
 (171, Ac.a3m, 82),
 (172, Ac.a3W, 83),
 (173, Ac.d5b, 84),
 (75, Ac.d5j, 85),
 (174, Ac.d5f, 86),
 (175, Ac.a1x, 87),
 (177, Ac.cmp_isNaN_int, 88),
 (178, Ac.a1c, 89),
 (181, Ac.d7O, 92),
 (183, Ac.d7L, 94),
 (185, Ac.d7P, 96),
 (187, Ac.a0P, 98),
 (188, Ac.a4G, 99),
 (189, Ac.a3S, 100),
 (76, Ac.a2Q, 101),
 (190, Ac.a3u, 102),
 (196, Ac.a1O, 103),
 (197, Ac.a5v, 104),
 (195, Ac.d7F, 109),
 (83, Ac.a3r, 110),
 (198, Ac.d7R, 111),
 (199, Ac.a4g, 127),
 (200, Ac.a3n, 129),
 (231, Ac.a1a, 32)]
def nums : List (Nat × Nat) := [(201, 3), (101, 4), (102, 5), (103, 6), (104, 7), (105, 8), (106, 9), (107, 10), (108, 11), (109, 12), (110, 13), (111, 14), (112, 15), (113, 16), (114, 17), (115, 18), (116, 19), (117, 20), (118, 21), (119, 22), (120, 23), (121, 24), (122, 25), (123, 26), (124, 27), (125, 28), (126, 29), (127, 30), (128, 31), (129, 32), (130, 33), (131, 34), (132, 35), (133, 36), (135, 37), (134, 38), (136, 39), (137, 40), (138, 41), (33, 42), (30, 43), (139, 44), (140, 45), (141, 46), (143, 47), (142, 48), (23, 49), (144, 50), (145, 51), (146, 52), (147, 53), (148, 54), (149, 55), (150, 56), (151, 57), (152, 58), (153, 59), (154, 60), (155, 61), (29, 62), (49, 63), (156, 64), (157, 65), (158, 66), (159, 67), (160, 68), (164, 69), (163, 70), (176, 71), (162, 72), (161, 73), (65, 74), (165, 75), (81, 76), (166, 77), (167, 78), (168, 79), (169, 80), (170, 81), (171, 82), (172, 83), (173, 84), (75, 85), (174, 86), (175, 87), (177, 88), (178, 89), (179, 90), (180, 91), (181, 92), (182, 93), (183, 94), (184, 95), (185, 96), (186, 97), (187, 98), (188, 99), (189, 100), (76, 101), (190, 102), (196, 103), (197, 104), (191, 105), (192, 106), (193, 107), (194, 108), (195, 109), (83, 110), (198, 111), (199, 127), (200, 129), (233, 79), (232, 38), (231, 32)]
def c3J : Nat -> List C := fun g => match g with | 3 => [.int .i64 (-1), .int .i64 (-1)] | 4 => [.fn (.fn 199) [] [] [], .fn (.fn 200) [] [] []] | _ => []
def Γ1 : Env := { fn := fun id => (tab.find? (·.1 == id)).map (·.2.1), prim := fun _ => none, glob := c3J }
noncomputable def S1 : Seat := { P := Tryz.prog, Γ := Γ1, fm := fun id => ((nums.find? (·.1 == id)).map (·.2)).getD 0, gm := fun g => match g with | 3 => 0 | 4 => 1 | _ => 0 }
def G1 : List Nat := [3, 4]
theorem e4s : FnOk S1 G1 201 Ac.e1Y := a0w (fn := Tryz.f3) Tryz.func3 (by kernel_rfl)
theorem c3V : FnOk S1 G1 101 Ac.a5i := a0w (fn := Tryz.f4) Tryz.func4 (by kernel_rfl)
theorem e4d : FnOk S1 G1 102 Ac.e1K := a0w (fn := Tryz.f5) Tryz.func5 (by kernel_rfl)
theorem c3W : FnOk S1 G1 103 Ac.a6B := a0w (fn := Tryz.f6) Tryz.func6 (by kernel_rfl)
theorem e4e : FnOk S1 G1 104 Ac.e1Z := a0w (fn := Tryz.f7) Tryz.func7 (by kernel_rfl)
theorem c3X : FnOk S1 G1 105 Ac.a1F := a0w (fn := Tryz.f8) Tryz.func8 (by kernel_rfl)
theorem e4f : FnOk S1 G1 106 Ac.e1D := a0w (fn := Tryz.f9) Tryz.func9 (by kernel_rfl)
theorem c3Y : FnOk S1 G1 107 Ac.a4U := a0w (fn := Tryz.f10) Tryz.func10 (by kernel_rfl)
theorem e4g : FnOk S1 G1 108 Ac.e1O := a0w (fn := Tryz.f11) Tryz.func11 (by kernel_rfl)
theorem c3Z : FnOk S1 G1 109 Ac.a3x := a0w (fn := Tryz.f12) Tryz.func12 (by kernel_rfl)
theorem c4a : FnOk S1 G1 110 Ac.a3M := a0w (fn := Tryz.f13) Tryz.func13 (by kernel_rfl)
theorem c4b : FnOk S1 G1 111 Ac.a3C := a0w (fn := Tryz.f14) Tryz.func14 (by kernel_rfl)
theorem c4c : FnOk S1 G1 112 Ac.a7d := a0w (fn := Tryz.f15) Tryz.func15 (by kernel_rfl)
theorem c4d : FnOk S1 G1 113 Ac.a3V := a0w (fn := Tryz.f16) Tryz.func16 (by kernel_rfl)
theorem d6q : FnOk S1 G1 114 Ac.d4I := a0w (fn := Tryz.f17) Tryz.func17 (by kernel_rfl)
theorem e4h : FnOk S1 G1 115 Ac.e2k := a0w (fn := Tryz.f18) Tryz.func18 (by kernel_rfl)
theorem e4i : FnOk S1 G1 116 Ac.e1R := a0w (fn := Tryz.f19) Tryz.func19 (by kernel_rfl)
theorem c4e : FnOk S1 G1 117 Ac.a6w := a0w (fn := Tryz.f20) Tryz.func20 (by kernel_rfl)
theorem c4f : FnOk S1 G1 118 Ac.a5M := a0w (fn := Tryz.f21) Tryz.func21 (by kernel_rfl)
theorem d6r : FnOk S1 G1 119 Ac.d4H := a0w (fn := Tryz.f22) Tryz.func22 (by kernel_rfl)
theorem e4j : FnOk S1 G1 120 Ac.e1S := a0w (fn := Tryz.f23) Tryz.func23 (by kernel_rfl)
theorem c4g : FnOk S1 G1 121 Ac.a4h := a0w (fn := Tryz.f24) Tryz.func24 (by kernel_rfl)
theorem c4h : FnOk S1 G1 122 Ac.a4I := a0w (fn := Tryz.f25) Tryz.func25 (by kernel_rfl)
theorem c4i : FnOk S1 G1 123 Ac.a2j := a0w (fn := Tryz.f26) Tryz.func26 (by kernel_rfl)
theorem e4k : FnOk S1 G1 124 Ac.e2g := a0w (fn := Tryz.f27) Tryz.func27 (by kernel_rfl)
theorem e4l : FnOk S1 G1 125 Ac.e1Q := a0w (fn := Tryz.f28) Tryz.func28 (by kernel_rfl)
theorem e4m : FnOk S1 G1 126 Ac.e1V := a0w (fn := Tryz.f29) Tryz.func29 (by kernel_rfl)
theorem c4j : FnOk S1 G1 127 Ac.a4f := a0w (fn := Tryz.f30) Tryz.func30 (by kernel_rfl)
theorem c4k : FnOk S1 G1 128 Ac.a5L := a0w (fn := Tryz.f31) Tryz.func31 (by kernel_rfl)
theorem c4l : FnOk S1 G1 130 Ac.a0X := a0w (fn := Tryz.f33) Tryz.func33 (by kernel_rfl)
theorem c4m : FnOk S1 G1 131 Ac.a5u := a0w (fn := Tryz.f34) Tryz.func34 (by kernel_rfl)
theorem e4n : FnOk S1 G1 132 Ac.e2f := a0w (fn := Tryz.f35) Tryz.func35 (by kernel_rfl)
theorem e4o : FnOk S1 G1 133 Ac.e1U := a0w (fn := Tryz.f36) Tryz.func36 (by kernel_rfl)
theorem c4o : FnOk S1 G1 135 Ac.a2u := a0w (fn := Tryz.f37) Tryz.func37 (by kernel_rfl)
theorem c4n : FnOk S1 G1 134 Ac.a4W := a0w (fn := Tryz.f38) Tryz.func38 (by kernel_rfl)
theorem c4p : FnOk S1 G1 136 Ac.a4e := a0w (fn := Tryz.f39) Tryz.func39 (by kernel_rfl)
theorem c4q : FnOk S1 G1 137 Ac.a2i := a0w (fn := Tryz.f40) Tryz.func40 (by kernel_rfl)
theorem c4r : FnOk S1 G1 138 Ac.a1Z := a0w (fn := Tryz.f41) Tryz.func41 (by kernel_rfl)
theorem ok33 : FnOk S1 G1 33 Ac.a3N := a0w (fn := Tryz.f42) Tryz.func42 (by kernel_rfl)
theorem ok30 : FnOk S1 G1 30 Ac.a4A := a0w (fn := Tryz.f43) Tryz.func43 (by kernel_rfl)
theorem c4s : FnOk S1 G1 139 Ac.a4c := a0w (fn := Tryz.f44) Tryz.func44 (by kernel_rfl)
theorem c4t : FnOk S1 G1 140 Ac.a4b := a0w (fn := Tryz.f45) Tryz.func45 (by kernel_rfl)
theorem c4u : FnOk S1 G1 141 Ac.a2t := a0w (fn := Tryz.f46) Tryz.func46 (by kernel_rfl)
theorem c4w : FnOk S1 G1 143 Ac.a4l := a0w (fn := Tryz.f47) Tryz.func47 (by kernel_rfl)
theorem c4v : FnOk S1 G1 142 Ac.a4z := a0w (fn := Tryz.f48) Tryz.func48 (by kernel_rfl)
theorem ok23 : FnOk S1 G1 23 Ac.a3l := a0w (fn := Tryz.f49) Tryz.func49 (by kernel_rfl)
theorem c4x : FnOk S1 G1 144 Ac.a5P := a0w (fn := Tryz.f50) Tryz.func50 (by kernel_rfl)
theorem c4y : FnOk S1 G1 145 Ac.a0N := a0w (fn := Tryz.f51) Tryz.func51 (by kernel_rfl)
theorem c4z : FnOk S1 G1 146 Ac.a3U := a0w (fn := Tryz.f52) Tryz.func52 (by kernel_rfl)
theorem d6s : FnOk S1 G1 147 Ac.d5d := a0w (fn := Tryz.f53) Tryz.func53 (by kernel_rfl)
theorem e4p : FnOk S1 G1 148 Ac.e1L := a0w (fn := Tryz.f54) Tryz.func54 (by kernel_rfl)
theorem d6t : FnOk S1 G1 149 Ac.d5g := a0w (fn := Tryz.f55) Tryz.func55 (by kernel_rfl)
theorem c4A : FnOk S1 G1 150 Ac.a5Q := a0w (fn := Tryz.f56) Tryz.func56 (by kernel_rfl)
theorem c4B : FnOk S1 G1 151 Ac.a5O := a0w (fn := Tryz.f57) Tryz.func57 (by kernel_rfl)
theorem c4C : FnOk S1 G1 152 Ac.a6G := a0w (fn := Tryz.f58) Tryz.func58 (by kernel_rfl)
theorem c4E : FnOk S1 G1 153 Ac.a5b := a0w (fn := Tryz.f59) Tryz.func59 (by kernel_rfl)
theorem c4F : FnOk S1 G1 154 Ac.a5N := a0w (fn := Tryz.f60) Tryz.func60 (by kernel_rfl)
theorem c4G : FnOk S1 G1 155 Ac.a1m := a0w (fn := Tryz.f61) Tryz.func61 (by kernel_rfl)
theorem ok29 : FnOk S1 G1 29 Ac.a2w := a0w (fn := Tryz.f62) Tryz.func62 (by kernel_rfl)
theorem ok49 : FnOk S1 G1 49 Ac.a2v := a0w (fn := Tryz.f63) Tryz.func63 (by kernel_rfl)
theorem d6u : FnOk S1 G1 156 Ac.d5e := a0w (fn := Tryz.f64) Tryz.func64 (by kernel_rfl)
theorem d6v : FnOk S1 G1 157 Ac.d5c := a0w (fn := Tryz.f65) Tryz.func65 (by kernel_rfl)
theorem d6w : FnOk S1 G1 158 Ac.d4G := a0w (fn := Tryz.f66) Tryz.func66 (by kernel_rfl)
theorem d6x : FnOk S1 G1 159 Ac.d5h := a0w (fn := Tryz.f67) Tryz.func67 (by kernel_rfl)
theorem c4H : FnOk S1 G1 160 Ac.a5a := a0w (fn := Tryz.f68) Tryz.func68 (by kernel_rfl)
theorem c4M : FnOk S1 G1 164 Ac.a5n := a0w (fn := Tryz.f69) Tryz.func69 (by kernel_rfl)
theorem c4K : FnOk S1 G1 163 Ac.cmp_Compare_int := a0w (fn := Tryz.f70) Tryz.func70 (by kernel_rfl)
theorem c4V : FnOk S1 G1 176 Ac.a0D := a0w (fn := Tryz.f71) Tryz.func71 (by kernel_rfl)
theorem c4J : FnOk S1 G1 162 Ac.a1v := a0w (fn := Tryz.f72) Tryz.func72 (by kernel_rfl)
theorem c4I : FnOk S1 G1 161 Ac.a5J := a0w (fn := Tryz.f73) Tryz.func73 (by kernel_rfl)
theorem ok65 : FnOk S1 G1 65 Ac.d2y := a0w (fn := Tryz.f74) Tryz.func74 (by kernel_rfl)
theorem e4q : FnOk S1 G1 165 Ac.e2c := a0w (fn := Tryz.f75) Tryz.func75 (by kernel_rfl)
theorem ok81 : FnOk S1 G1 81 Ac.e2e := a0w (fn := Tryz.f76) Tryz.func76 (by kernel_rfl)
theorem e4r : FnOk S1 G1 166 Ac.e1H := a0w (fn := Tryz.f77) Tryz.func77 (by kernel_rfl)
theorem c4N : FnOk S1 G1 167 Ac.a4H := a0w (fn := Tryz.f78) Tryz.func78 (by kernel_rfl)
theorem c4O : FnOk S1 G1 168 Ac.a4s := a0w (fn := Tryz.f79) Tryz.func79 (by kernel_rfl)
theorem c4P : FnOk S1 G1 169 Ac.a4J := a0w (fn := Tryz.f80) Tryz.func80 (by kernel_rfl)
theorem c4Q : FnOk S1 G1 170 Ac.a1d := a0w (fn := Tryz.f81) Tryz.func81 (by kernel_rfl)
theorem c4R : FnOk S1 G1 171 Ac.a3m := a0w (fn := Tryz.f82) Tryz.func82 (by kernel_rfl)
theorem c4S : FnOk S1 G1 172 Ac.a3W := a0w (fn := Tryz.f83) Tryz.func83 (by kernel_rfl)
theorem d6y : FnOk S1 G1 173 Ac.d5b := a0w (fn := Tryz.f84) Tryz.func84 (by kernel_rfl)
theorem ok75 : FnOk S1 G1 75 Ac.d5j := a0w (fn := Tryz.f85) Tryz.func85 (by kernel_rfl)
theorem d6z : FnOk S1 G1 174 Ac.d5f := a0w (fn := Tryz.f86) Tryz.func86 (by kernel_rfl)
theorem c4T : FnOk S1 G1 175 Ac.a1x := a0w (fn := Tryz.f87) Tryz.func87 (by kernel_rfl)
theorem c4W : FnOk S1 G1 177 Ac.cmp_isNaN_int := a0w (fn := Tryz.f88) Tryz.func88 (by kernel_rfl)
theorem c4X : FnOk S1 G1 178 Ac.a1c := a0w (fn := Tryz.f89) Tryz.func89 (by kernel_rfl)
theorem e0c : FnOk S1 G1 181 Ac.d7O := a0w (fn := Tryz.f92) Tryz.func92 (by kernel_rfl)
theorem e0d : FnOk S1 G1 183 Ac.d7L := a0w (fn := Tryz.f94) Tryz.func94 (by kernel_rfl)
theorem e0e : FnOk S1 G1 185 Ac.d7P := a0w (fn := Tryz.f96) Tryz.func96 (by kernel_rfl)
theorem c4Y : FnOk S1 G1 187 Ac.a0P := a0w (fn := Tryz.f98) Tryz.func98 (by kernel_rfl)
theorem c4Z : FnOk S1 G1 188 Ac.a4G := a0w (fn := Tryz.f99) Tryz.func99 (by kernel_rfl)
theorem c5a : FnOk S1 G1 189 Ac.a3S := a0w (fn := Tryz.f100) Tryz.func100 (by kernel_rfl)
theorem ok76 : FnOk S1 G1 76 Ac.a2Q := a0w (fn := Tryz.f101) Tryz.func101 (by kernel_rfl)
theorem c5b : FnOk S1 G1 190 Ac.a3u := a0w (fn := Tryz.f102) Tryz.func102 (by kernel_rfl)
theorem c5c : FnOk S1 G1 196 Ac.a1O := a0w (fn := Tryz.f103) Tryz.func103 (by kernel_rfl)
theorem c5d : FnOk S1 G1 197 Ac.a5v := a0w (fn := Tryz.f104) Tryz.func104 (by kernel_rfl)
theorem e0f : FnOk S1 G1 195 Ac.d7F := a0w (fn := Tryz.f109) Tryz.func109 (by kernel_rfl)
theorem ok83 : FnOk S1 G1 83 Ac.a3r := a0w (fn := Tryz.f110) Tryz.func110 (by kernel_rfl)
theorem e0g : FnOk S1 G1 198 Ac.d7R := a0w (fn := Tryz.f111) Tryz.func111 (by kernel_rfl)
theorem c5e : FnOk S1 G1 199 Ac.a4g := a0w (fn := Tryz.f127) Tryz.func127 (by kernel_rfl)
theorem c5f : FnOk S1 G1 200 Ac.a3n := a0w (fn := Tryz.f129) Tryz.func129 (by kernel_rfl)
theorem c5l : FnOk S1 G1 231 Ac.a1a := a0w (fn := Tryz.f32) Tryz.func32 (by kernel_rfl)
theorem c2l : ∀ e ∈ tab, FnOk S1 G1 e.1 e.2.1 := by
 intro e he
 simp only [tab, List.mem_cons, List.not_mem_nil, or_false] at he
 rcases he with rfl | rfl | rfl | rfl | rfl | rfl | rfl | rfl | rfl | rfl | rfl | rfl | rfl | rfl | rfl | rfl | rfl | rfl | rfl | rfl | rfl | rfl | rfl | rfl | rfl | rfl | rfl | rfl | rfl | rfl | rfl | rfl | rfl | rfl | rfl | rfl | rfl | rfl | rfl | rfl | rfl | rfl | rfl | rfl | rfl | rfl | rfl | rfl | rfl | rfl | rfl | rfl | rfl | rfl | rfl | rfl | rfl | rfl | rfl | rfl | rfl | rfl | rfl | rfl | rfl | rfl | rfl | rfl | rfl | rfl | rfl | rfl | rfl | rfl | rfl | rfl | rfl | rfl | rfl | rfl | rfl | rfl | rfl | rfl | rfl | rfl | rfl | rfl | rfl | rfl | rfl | rfl | rfl | rfl | rfl | rfl | rfl | rfl | rfl | rfl | rfl | rfl
 ·exact e4s
 ·exact c3V
 ·exact e4d
 ·exact c3W
 ·exact e4e
 ·exact c3X
 ·exact e4f
 ·exact c3Y
 ·exact e4g
 ·exact c3Z
 ·exact c4a
 ·exact c4b
 ·exact c4c
 ·exact c4d
 ·exact d6q
 ·exact e4h
 ·exact e4i
 ·exact c4e
 ·exact c4f
 ·exact d6r
 ·exact e4j
 ·exact c4g
 ·exact c4h
 ·exact c4i
 ·exact e4k
 ·exact e4l
 ·exact e4m
 ·exact c4j
 ·exact c4k
 ·exact c4l
 ·exact c4m
 ·exact e4n
 ·exact e4o
 ·exact c4o
 ·exact c4n
 ·exact c4p
 ·exact c4q
 ·exact c4r
 ·exact ok33
 ·exact ok30
 ·exact c4s
 ·exact c4t
 ·exact c4u
 ·exact c4w
 ·exact c4v
 ·exact ok23
 ·exact c4x
 ·exact c4y
 ·exact c4z
 ·exact d6s
 ·exact e4p
 ·exact d6t
 ·exact c4A
 ·exact c4B
 ·exact c4C
 ·exact c4E
 ·exact c4F
 ·exact c4G
 ·exact ok29
 ·exact ok49
 ·exact d6u
 ·exact d6v
 ·exact d6w
 ·exact d6x
 ·exact c4H
 ·exact c4M
 ·exact c4K
 ·exact c4V
 ·exact c4J
 ·exact c4I
 ·exact ok65
 ·exact e4q
 ·exact ok81
 ·exact e4r
 ·exact c4N
 ·exact c4O
 ·exact c4P
 ·exact c4Q
 ·exact c4R
 ·exact c4S
 ·exact d6y
 ·exact ok75
 ·exact d6z
 ·exact c4T
 ·exact c4W
 ·exact c4X
 ·exact e0c
 ·exact e0d
 ·exact e0e
 ·exact c4Y
 ·exact c4Z
 ·exact c5a
 ·exact ok76
 ·exact c5b
 ·exact c5c
 ·exact c5d
 ·exact e0f
 ·exact ok83
 ·exact e0g
 ·exact c5e
 ·exact c5f
 ·exact c5l
theorem c1n : SeatOk S1 G1 where
 mixed := by kernel_rfl
 fn := fun id f h => by
  have h' : (tab.find? (·.1 == id)).map (·.2.1) = some f := h
  cases hf : tab.find? (·.1 == id) with
  | none => rw [hf] at h'; cases h'
  | some e =>
   rw [hf] at h'
   have h1 := List.mem_of_find?_eq_some hf
   have h2 := List.find?_some hf
   simp only [Option.map_some, Option.some.injEq] at h'
   have h3 : e.1 = id := by simpa using h2
   subst h' h3
   exact c2l e h1
 prim := fun id p vs h v h' _ e => by cases e
end Go.Pm
namespace Go.Pm
open T
theorem a6S (k : IntKind) (ts : List T) (cs : List C) : T.hasL (.int k :: ts) cs <-> ∃ n r, cs = .int k n :: r /\ (Lit.int k n).wf = true /\ T.hasL ts r := by
 simp only [T.hasL, T.has]
 constructor
 ·rintro ⟨a, r, rfl, ⟨n, rfl, hn⟩, h⟩; exact ⟨n, r, rfl, hn, h⟩
 ·rintro ⟨n, r, rfl, hn, h⟩; exact ⟨[.int k n], r, rfl, ⟨n, rfl, hn⟩, h⟩
theorem a6T (cs : List C) : T.hasL [] cs <-> cs = [] := by simp only [T.hasL]
theorem b4s : ∀ (us ts : List T) (cs : List C), T.hasL (us ++ ts) cs <-> ∃ a r, cs = a ++ r /\ T.hasL us a /\ T.hasL ts r
 | [], ts, cs => by
  simp only [List.nil_append, T.hasL]
  constructor
  ·intro h; exact ⟨[], cs, rfl, rfl, h⟩
  ·rintro ⟨a, r, rfl, rfl, h⟩; exact h
 | u :: us, ts, cs => by
  simp only [List.cons_append, T.hasL, b4s us ts]
  constructor
  ·rintro ⟨a, r, rfl, hu, b, c, rfl, h1, h2⟩; exact ⟨a ++ b, c, by simp, ⟨a, b, rfl, hu, h1⟩, h2⟩
  ·rintro ⟨_, c, rfl, ⟨a, b, rfl, hu, h1⟩, h2⟩; exact ⟨a, b ++ c, by simp, hu, b, c, rfl, h1, h2⟩
theorem c0S (us ts : List T) (cs : List C) : T.hasL (.st us :: ts) cs <-> T.hasL (us ++ ts) cs := by
 rw [b4s]; simp only [T.hasL, T.has]
theorem b5N (es : Nat) (e : T) (ts : List T) (cs : List C) : T.hasL (.sl es e :: ts) cs <-> ∃ k l r, cs = .sl k es l :: r /\ l.length <= maxLen /\ (∀ x ∈ l, T.has e x) /\ (k = .nil -> l = []) /\ (l = [] -> True) /\ T.hasL ts r := by
 simp only [T.hasL, T.has]
 constructor
 ·rintro ⟨a, r, rfl, ha, h⟩
  rcases ha with rfl | ⟨k, l, rfl, hk, hl, hx⟩
  ·exact ⟨.nil, [], r, rfl, Nat.zero_le _, by simp, fun _ => rfl, fun _ => trivial, h⟩
  ·exact ⟨k, l, r, rfl, hl, hx, fun e => absurd e hk, fun _ => trivial, h⟩
 ·rintro ⟨k, l, r, rfl, hl, hx, hk, -, h⟩
  refine ⟨[.sl k es l], r, rfl, ?_, h⟩
  by_cases e : k = .nil
  ·have := hk e; subst this; subst e; exact .inl rfl
  ·exact .inr ⟨k, l, rfl, e, hl, hx⟩
theorem all_map {α : Type} (e : T) (c : α -> List C) (h : ∀ x, T.has e x -> ∃ a, x = c a) : ∀ (l : List (List C)), (∀ x ∈ l, T.has e x) -> ∃ ys : List α, l = ys.map c
 | [], _ => ⟨[], rfl⟩
 | x :: l, hl => by
  obtain ⟨a, rfl⟩ := h x (hl x (by simp))
  obtain ⟨ys, rfl⟩ := all_map e c h l (fun y hy => hl y (by simp [hy]))
  exact ⟨a :: ys, rfl⟩
def i1 : T := .int .i64
end Go.Pm
namespace Go.Pm.St
open T
def a7c : T := .st [i1, i1]
def dayT : T := .st [i1, i1, i1]
def b3R : T := .st [i1, i1]
def b3S : T := .st [i1, i1, i1, i1]
def b3K : T := .st [.sl 2 a7c, .st [a7c, a7c, a7c], .sl 3 dayT, .sl 2 b3R, .sl 4 b3S]
theorem c1t (x : List C) (h : T.has a7c x) : ∃ d : Span, x = d.c := by
 simp only [a7c, i1, T.has, a6S, a6T] at h
 obtain ⟨n, r, rfl, -, n2, r2, rfl, -, rfl⟩ := h
 exact ⟨⟨n, n2⟩, rfl⟩
theorem c1X (x : List C) (h : T.has dayT x) : ∃ d : Day, x = d.c := by
 simp only [dayT, i1, T.has, a6S, a6T] at h
 obtain ⟨n, r, rfl, -, n2, r2, rfl, -, n3, r3, rfl, -, rfl⟩ := h
 exact ⟨⟨n, n2, n3⟩, rfl⟩
theorem rest_of (x : List C) (h : T.has b3R x) : ∃ d : Rest, x = d.c := by
 simp only [b3R, i1, T.has, a6S, a6T] at h
 obtain ⟨n, r, rfl, -, n2, r2, rfl, -, rfl⟩ := h
 exact ⟨⟨n, n2⟩, rfl⟩
theorem c1q (x : List C) (h : T.has b3S x) : ∃ d : Sign, x = d.c := by
 simp only [b3S, i1, T.has, a6S, a6T] at h
 obtain ⟨n, r, rfl, -, n2, r2, rfl, -, n3, r3, rfl, -, n4, r4, rfl, -, rfl⟩ := h
 exact ⟨⟨n, n2, n3, n4⟩, rfl⟩
theorem c0H (v : V) (h : b3K.hasV v) : ∃ b : Book, v = .agg b.c /\ b.Fits := by
 simp only [b3K, T.hasV] at h
 obtain ⟨cl, rfl, h⟩ := h
 rw [b5N] at h
 obtain ⟨k0, l0, r0, rfl, m0, a0, -, -, h⟩ := h
 simp only [show (T.st [a7c, a7c, a7c]) = .st [.st [i1, i1], .st [i1, i1], .st [i1, i1]] from rfl, show i1 = T.int .i64 from rfl, a6S, c0S, b5N, List.cons_append, List.nil_append, a6T] at h
 obtain ⟨n, r, rfl, -, n2, r2, rfl, -, n3, r3, rfl, -, n4, r4, rfl, -, n5, r5, rfl, -, n6, r6, rfl, -, k1, l1, r9, rfl, m1, a1, -, -, k2, l2, r10, rfl, m2, a2, -, -, k3, l3, r11, rfl, m3, a3, -, -, rfl⟩ := h
 obtain ⟨ss, rfl⟩ := all_map a7c Span.c c1t l0 a0
 obtain ⟨ds, rfl⟩ := all_map dayT Day.c c1X l1 a1
 obtain ⟨rs, rfl⟩ := all_map b3R Rest.c rest_of l2 a2
 obtain ⟨gs, rfl⟩ := all_map b3S Sign.c c1q l3 a3
 refine ⟨⟨k0, ss, ⟨n, n2⟩, ⟨n3, n4⟩, ⟨n5, n6⟩, k1, ds, k2, rs, k3, gs⟩, rfl, ⟨?_, ?_, ?_, ?_⟩⟩
 ·simpa [maxLen] using m0
 ·simpa [maxLen] using m1
 ·simpa [maxLen] using m2
 ·simpa [maxLen] using m3
theorem d2n (v : V) (h : (T.sl 2 b3R).hasV v) : ∃ (k : SK) (l : List Rest), l.length <= maxLen /\ v = .sc (.sl k 2 (l.map Rest.c)) := by
 simp only [T.hasV] at h
 obtain ⟨c, rfl, h⟩ := h
 have h' := (b5N 2 b3R [] [c]).1 (by simp only [T.hasL]; exact ⟨[c], [], rfl, h, rfl⟩)
 obtain ⟨k, l, r, hc, hl, hx, -, -, hr⟩ := h'
 rw [a6T] at hr
 subst hr
 simp only [List.cons.injEq, and_true] at hc
 subst hc
 obtain ⟨ys, rfl⟩ := all_map b3R Rest.c rest_of l hx
 exact ⟨k, ys, by simpa using hl, rfl⟩
end Go.Pm.St
namespace Go.Proofs.YtjmjifbnckecjaaGreatDoor
open Go Go.Pm Go.ChangeShapes Go.WideShapes Go.ChangeAt Go.RowKit
instance p04 : P04 Γ1 := by constructor <;> rfl
instance g04 : St.G04 Γ1 := ⟨rfl, rfl⟩
theorem own : ownKnob Tryz.prog.godebug = none := by kernel_rfl
theorem laidOut : laidOutB Tryz.prog = true := by kernel_rfl
def b1Y : List (String × DataW Unit) := [("decani/strain.nowhere", Rows.laid_decani_strain_nowhere), ("decani/strain.ways", Rows.laid_decani_strain_ways)]
theorem door_met (os : Os) (args : Array Value) : laidMetH Tryz.prog b1Y ((World.doorLaid Tryz.prog 600 os).forCall (fun _ _ => 0) ⟨#[], args, []⟩).memory :=
 laidMetH_of_parts3 (fuel := 8) (laidMet_of_run' 8 (by kernel_rfl) (by kernel_rfl)) (by kernel_rfl) (by kernel_rfl)
def b9l : List UInt8 := [40, 100, 101, 99, 97, 110, 105, 47, 115, 116, 114, 97, 105, 110, 46, 99, 111, 115, 116, 115, 41, 46, 114, 101, 115, 116]
def b9m : List UInt8 := [40, 100, 101, 99, 97, 110, 105, 47, 115, 116, 114, 97, 105, 110, 46, 99, 111, 115, 116, 115, 41, 46, 115, 105, 110, 103]
theorem globs {w : World} (h : laidMetH Tryz.prog b1Y w) : ∀ id ∈ G1, RC S1 (.start w) (.eptr (S1.Γ.glob id) 0) (.pointer (some ⟨S1.gm id, 0, none⟩)) := by
 intro id hid
 have : id = 3 \/ id = 4 := by simpa [G1] using hid
 rcases this with rfl | rfl
 ·exact b7x (S := S1) (n := "decani/strain.nowhere") (b := 0) (t := 104) (k := 2) (d := 8) (zs := [-1, -1]) h (List.Mem.head _) (by kernel_rfl) (by kernel_rfl) (by kernel_rfl)
 ·exact b6t (S := S1) (n := "decani/strain.ways") (b := 1) (t := 157) (e := 156) (k := 2) (ps := #[117, 3, 97]) (rs := #[3]) (va := false) (ids := [199, 200]) (names := [b9l, b9m]) h (List.Mem.tail _ (List.Mem.head _)) (by kernel_rfl) (by kernel_rfl) (by kernel_rfl) (by kernel_rfl) (by kernel_rfl) (by kernel_rfl) rfl rfl (by kernel_rfl)
end Go.Proofs.YtjmjifbnckecjaaGreatDoor
namespace Go.Proofs.YtjmjifbnckecjaaGreatDoor
open Go Go.Pm Go.Pm.St Go.ChangeShapes Go.WideShapes Go.ChangeAt Go.RowKit
theorem lifted (os : Os) (started : os.Started) (H : Type) (enc : TypeId × Value -> H) :
 ReturnsInHanded {} Tryz.checked os 3 .any (fun w args => (Rows.strainPlansSpec.pre enc Tryz.prog Tryz.f3 [] false w args /\ laidMetH Tryz.prog b1Y w) /\ sizedMet enc Tryz.prog Tryz.f3 (OpenSpec.ofChange Rows.strainPlansSpec) false w args)
  (Rows.strainPlansSpec.post enc Tryz.prog Tryz.f3 false true false false) := by
 refine returnsInHanded_of_change_and (C := Tryz.checked) (X := fun w _ => laidMetH Tryz.prog b1Y w) (fun _ _ _ hh h => h.of_heap hh) own started (by kernel_rfl) Tryz.func3
  (ChangeSpec.witness_shaped (enc := enc) (C := Tryz.checked) (os := os) (X := fun w _ => laidMetH Tryz.prog b1Y w) false (World.doorLaid Tryz.prog 600 os) #[.agg #[.slice none 0 0, .int .i64 0, .int .i64 0, .int .i64 0, .int .i64 0, .int .i64 0, .int .i64 0, .slice none 0 0, .slice none 0 0, .slice none 0 0], .slice none 0 0] 8 rfl (World.shaped_of_RefB (by kernel_rfl) (by kernel_rfl)) (by kernel_rfl) (by kernel_rfl) (by kernel_rfl) (door_met os _)) ?_
 intro W base args ds gs before hval hW _ _ hL _
 refine b4C (S := S1) (G := G1) (id := 201) (tb := 4) (base := base) c1n 8 [b3K, (T.sl 2 b3R)] (by kernel_rfl) (by kernel_rfl) laidOut (by kernel_rfl) (by kernel_rfl) rfl ?_ ?_ hval hW (globs hL)
 ·intro ds hd
  match ds, hd with
  | [d0, d1], _ => rfl
 ·show ∀ vs, a6Z [b3K, (T.sl 2 b3R)] vs -> K Γ1 (.fn 201) vs [] = some (.sc (.bool true), [])
  intro vs hvs
  simp only [a6Z] at hvs
  obtain ⟨v0, r0, rfl, h0, v1, r1, rfl, h1, rfl⟩ := hvs
  obtain ⟨b, rfl, hb⟩ := c0H _ h0
  haveI := hb
  obtain ⟨kl, l, hl, rfl⟩ := d2n _ h1
  exact e3n (Γ := Γ1) b kl l (Nat.le_trans hl (by decide))
theorem b8f : Rows.StrainPlansSaid :=
 OpenClaim.holds_of_wide 3 Tryz.f3 rfl rfl rfl rfl rfl rfl rfl ⟨rfl, rfl, rfl, rfl, rfl⟩ rfl rfl rfl rfl rfl (by kernel_rfl) Tryz.func3 (by kernel_rfl)
  (of_decide_eq_true (by kernel_rfl)) (by unfold Func.isWrapper; first | (rw [if_pos (by decide +kernel)]; kernel_rfl) | (rw [if_neg (by decide +kernel)]; exact ⟨rfl, rfl⟩))
  (fun os started H enc _ => lifted os started H enc)
theorem strainPlans_card_holds : Rows.StrainPlansCardSaid :=
 Claim7.holds_tied_plain_at .later [] [.data, .funcs] true (true, "4fefbb4dd47b4bdf763753c13b8f9c40f2c2eda488fd38aa088b7f7d0706f9df") false
  b8f (fun _ h => by cases h) (by kernel_rfl) (fun _ h => by cases h) strainPlans_row_tie rfl ⟨rfl, rfl⟩ (by kernel_rfl) rfl
  (fun f fn hf hfn => by
   obtain rfl : f = 3 := Option.some.inj ((show Tryz.prog.funcNamed "decani/decanilaw04.StrainPlans" = some 3 by kernel_rfl).symm.trans hf) |>.symm
   obtain rfl : fn = Tryz.f3 := (Option.some.inj (Tryz.func3.symm.trans hfn)).symm
   exact ⟨by kernel_rfl, fun j t ht => by
    have hp : Tryz.f3.params = #[30, 27] := by kernel_rfl
    rw [hp] at ht
    have hm : t ∈ ([30, 27] : List TypeId) := by simpa using Array.mem_of_getElem? ht
    have hall : (([30, 27] : List TypeId).all fun u => !Tryz.prog.wantsStandIn u) = true := by kernel_rfl
    exact (show Tryz.prog.wantsStandIn t = false by simpa using List.all_eq_true.1 hall t hm)⟩)
  (by kernel_rfl)
#print axioms strainPlans_card_holds
end Go.Proofs.YtjmjifbnckecjaaGreatDoor

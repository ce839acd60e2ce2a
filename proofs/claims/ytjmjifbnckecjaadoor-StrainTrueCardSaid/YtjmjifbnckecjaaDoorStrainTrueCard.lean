/- The statement StrainTrue: whatever its arguments, the call returns true, and each argument reads as before. No condition beside the row's own. -/
import Derived.Test.YtjmjifbnckecjaaDoorW4
import Derived.Test.YtjmjifbnckecjaaDoorStrainTrueL8
import Derived.Test.YtjmjifbnckecjaaDoorProg
import Derived.Test.YtjmjifbnckecjaaDoorTie
import Derived.Test.YtjmjifbnckecjaaDoorCards
import Derived.ProofKit
import Derived.LaidMore
import Derived.OpenShut
import Derived.Stop.Joined
import Derived.SevenTiedAt
set_option linter.all false
set_option maxRecDepth 100000
namespace Go.Pm
open Go Go.Pm.Ac Go.Proofs
def tab : List (Nat × Fn × Nat) := [
 (225, Ac.d7T, 8),
 (141, Ac.a2t, 14),
 (143, Ac.a4l, 16),
 (23, Ac.a3l, 18),
 (110, Ac.a3M, 19),
 (204, Ac.a3k, 20),
 (27, Ac.a2U, 21),
 (101, Ac.a5i, 22),
 (135, Ac.a2u, 23),
 (138, Ac.a1Z, 24),
 (205, Ac.a4t, 25),
 (29, Ac.a2w, 27),
 (103, Ac.a6B, 28),
 (105, Ac.a1F, 29),
 (208, Ac.a2z, 31),
 (209, Ac.d2G, 32),
 (117, Ac.a6w, 34),
 (137, Ac.a2i, 37),
 (214, Ac.d8j, 40),
 (215, Ac.d8h, 41),
 (107, Ac.a4U, 42),
 (216, Ac.d8i, 43),
 (28, Ac.d4d, 44),
 (30, Ac.a4A, 45),
 (134, Ac.a4W, 53),
 (168, Ac.a4s, 54),
 (33, Ac.a3N, 55),
 (139, Ac.a4c, 56),
 (142, Ac.a4z, 57),
 (136, Ac.a4e, 58),
 (109, Ac.a3x, 59),
 (111, Ac.a3C, 60),
 (154, Ac.a5N, 61),
 (144, Ac.a5P, 62),
 (170, Ac.a1d, 66),
 (140, Ac.a4b, 67),
 (49, Ac.a2v, 68),
 (112, Ac.a7d, 69),
 (113, Ac.a3V, 70),
 (153, Ac.a5b, 71),
 (152, Ac.a6G, 72),
 (167, Ac.a4H, 73),
 (146, Ac.a3U, 74),
 (118, Ac.a5M, 75),
 (121, Ac.a4h, 76),
 (122, Ac.a4I, 77),
 (123, Ac.a2j, 78),
 (150, Ac.a5Q, 79),
 (151, Ac.a5O, 80),
 (169, Ac.a4J, 84),
 (64, Ac.d8x, 86),
 (63, Ac.d7V, 87),
 (127, Ac.a4f, 88),
 (128, Ac.a5L, 89),
 (130, Ac.a0X, 91),
 (131, Ac.a5u, 92),
 (171, Ac.a3m, 96),
 (172, Ac.a3W, 97),
 (145, Ac.a0N, 99),
 (188, Ac.a4G, 100),
 (189, Ac.a3S, 101),
 (155, Ac.a1m, 102),
 (160, Ac.a5a, 104),
 (164, Ac.a5n, 105),
 (163, Ac.cmp_Compare_int, 106),
 (176, Ac.a0D, 107),
 (162, Ac.a1v, 108),
 (161, Ac.a5J, 109),
 (76, Ac.a2Q, 110),
 (190, Ac.a3u, 111),
 (196, Ac.a1O, 112),
 (197, Ac.a5v, 113),
 (175, Ac.a1x, 114),
 (177, Ac.cmp_isNaN_int, 116),
 (178, Ac.a1c, 117),
 (181, Ac.d7O, 120),
 (183, Ac.d7L, 122),
 (185, Ac.d7P, 124),
 (187, Ac.a0P, 126),
 (83, Ac.a3r, 127),
 (195, Ac.d7F, 132),
 (198, Ac.d7R, 133),
 (199, Ac.a4g, 149),
 (200, Ac.a3n, 151),
 (231, Ac.a1a, 90)]
def nums : List (Nat × Nat) := [(220, 3), (221, 4), (222, 5), (223, 6), (224, 7), (225, 8), (226, 9), (227, 10), (228, 11), (229, 12), (230, 13), (141, 14), (202, 15), (143, 16), (203, 17), (23, 18), (110, 19), (204, 20), (27, 21), (101, 22), (135, 23), (138, 24), (205, 25), (206, 26), (29, 27), (103, 28), (105, 29), (207, 30), (208, 31), (209, 32), (210, 33), (117, 34), (119, 35), (211, 36), (137, 37), (212, 38), (213, 39), (214, 40), (215, 41), (107, 42), (216, 43), (28, 44), (30, 45), (31, 46), (217, 47), (218, 48), (34, 49), (35, 50), (219, 51), (37, 52), (134, 53), (168, 54), (33, 55), (139, 56), (142, 57), (136, 58), (109, 59), (111, 60), (154, 61), (144, 62), (114, 63), (158, 64), (147, 65), (170, 66), (140, 67), (49, 68), (112, 69), (113, 70), (153, 71), (152, 72), (167, 73), (146, 74), (118, 75), (121, 76), (122, 77), (123, 78), (150, 79), (151, 80), (156, 81), (157, 82), (149, 83), (169, 84), (75, 85), (64, 86), (63, 87), (127, 88), (128, 89), (129, 90), (130, 91), (131, 92), (65, 93), (66, 94), (67, 95), (171, 96), (172, 97), (173, 98), (145, 99), (188, 100), (189, 101), (155, 102), (174, 103), (160, 104), (164, 105), (163, 106), (176, 107), (162, 108), (161, 109), (76, 110), (190, 111), (196, 112), (197, 113), (175, 114), (159, 115), (177, 116), (178, 117), (179, 118), (180, 119), (181, 120), (182, 121), (183, 122), (184, 123), (185, 124), (186, 125), (187, 126), (83, 127), (191, 128), (192, 129), (193, 130), (194, 131), (195, 132), (198, 133), (199, 149), (200, 151), (233, 54), (232, 53), (231, 90)]
def c3J : Nat -> List C := fun g => match g with | 3 => [.int .i64 (-1), .int .i64 (-1)] | 4 => [.fn (.fn 199) [] [] [], .fn (.fn 200) [] [] []] | _ => []
def Γ1 : Env := { fn := fun id => (tab.find? (·.1 == id)).map (·.2.1), prim := fun _ => none, glob := c3J }
noncomputable def S1 : Seat := { P := Tryd.prog, Γ := Γ1, fm := fun id => ((nums.find? (·.1 == id)).map (·.2)).getD 0, gm := fun g => match g with | 3 => 0 | 4 => 1 | _ => 0 }
def G1 : List Nat := [3, 4]
theorem e0k : FnOk S1 G1 225 Ac.d7T := a0w (fn := Tryd.f8) Tryd.func8 (by kernel_rfl)
theorem c4u : FnOk S1 G1 141 Ac.a2t := a0w (fn := Tryd.f14) Tryd.func14 (by kernel_rfl)
theorem c4w : FnOk S1 G1 143 Ac.a4l := a0w (fn := Tryd.f16) Tryd.func16 (by kernel_rfl)
theorem ok23 : FnOk S1 G1 23 Ac.a3l := a0w (fn := Tryd.f18) Tryd.func18 (by kernel_rfl)
theorem c4a : FnOk S1 G1 110 Ac.a3M := a0w (fn := Tryd.f19) Tryd.func19 (by kernel_rfl)
theorem c5g : FnOk S1 G1 204 Ac.a3k := a0w (fn := Tryd.f20) Tryd.func20 (by kernel_rfl)
theorem ok27 : FnOk S1 G1 27 Ac.a2U := a0w (fn := Tryd.f21) Tryd.func21 (by kernel_rfl)
theorem c3V : FnOk S1 G1 101 Ac.a5i := a0w (fn := Tryd.f22) Tryd.func22 (by kernel_rfl)
theorem c4o : FnOk S1 G1 135 Ac.a2u := a0w (fn := Tryd.f23) Tryd.func23 (by kernel_rfl)
theorem c4r : FnOk S1 G1 138 Ac.a1Z := a0w (fn := Tryd.f24) Tryd.func24 (by kernel_rfl)
theorem c5h : FnOk S1 G1 205 Ac.a4t := a0w (fn := Tryd.f25) Tryd.func25 (by kernel_rfl)
theorem ok29 : FnOk S1 G1 29 Ac.a2w := a0w (fn := Tryd.f27) Tryd.func27 (by kernel_rfl)
theorem c3W : FnOk S1 G1 103 Ac.a6B := a0w (fn := Tryd.f28) Tryd.func28 (by kernel_rfl)
theorem c3X : FnOk S1 G1 105 Ac.a1F := a0w (fn := Tryd.f29) Tryd.func29 (by kernel_rfl)
theorem c5j : FnOk S1 G1 208 Ac.a2z := a0w (fn := Tryd.f31) Tryd.func31 (by kernel_rfl)
theorem d3w : FnOk S1 G1 209 Ac.d2G := a0w (fn := Tryd.f32) Tryd.func32 (by kernel_rfl)
theorem c4e : FnOk S1 G1 117 Ac.a6w := a0w (fn := Tryd.f34) Tryd.func34 (by kernel_rfl)
theorem c4q : FnOk S1 G1 137 Ac.a2i := a0w (fn := Tryd.f37) Tryd.func37 (by kernel_rfl)
theorem e0h : FnOk S1 G1 214 Ac.d8j := a0w (fn := Tryd.f40) Tryd.func40 (by kernel_rfl)
theorem e0i : FnOk S1 G1 215 Ac.d8h := a0w (fn := Tryd.f41) Tryd.func41 (by kernel_rfl)
theorem c3Y : FnOk S1 G1 107 Ac.a4U := a0w (fn := Tryd.f42) Tryd.func42 (by kernel_rfl)
theorem e0j : FnOk S1 G1 216 Ac.d8i := a0w (fn := Tryd.f43) Tryd.func43 (by kernel_rfl)
theorem ok28 : FnOk S1 G1 28 Ac.d4d := a0w (fn := Tryd.f44) Tryd.func44 (by kernel_rfl)
theorem ok30 : FnOk S1 G1 30 Ac.a4A := a0w (fn := Tryd.f45) Tryd.func45 (by kernel_rfl)
theorem c4n : FnOk S1 G1 134 Ac.a4W := a0w (fn := Tryd.f53) Tryd.func53 (by kernel_rfl)
theorem c4O : FnOk S1 G1 168 Ac.a4s := a0w (fn := Tryd.f54) Tryd.func54 (by kernel_rfl)
theorem ok33 : FnOk S1 G1 33 Ac.a3N := a0w (fn := Tryd.f55) Tryd.func55 (by kernel_rfl)
theorem c4s : FnOk S1 G1 139 Ac.a4c := a0w (fn := Tryd.f56) Tryd.func56 (by kernel_rfl)
theorem c4v : FnOk S1 G1 142 Ac.a4z := a0w (fn := Tryd.f57) Tryd.func57 (by kernel_rfl)
theorem c4p : FnOk S1 G1 136 Ac.a4e := a0w (fn := Tryd.f58) Tryd.func58 (by kernel_rfl)
theorem c3Z : FnOk S1 G1 109 Ac.a3x := a0w (fn := Tryd.f59) Tryd.func59 (by kernel_rfl)
theorem c4b : FnOk S1 G1 111 Ac.a3C := a0w (fn := Tryd.f60) Tryd.func60 (by kernel_rfl)
theorem c4F : FnOk S1 G1 154 Ac.a5N := a0w (fn := Tryd.f61) Tryd.func61 (by kernel_rfl)
theorem c4x : FnOk S1 G1 144 Ac.a5P := a0w (fn := Tryd.f62) Tryd.func62 (by kernel_rfl)
theorem c4Q : FnOk S1 G1 170 Ac.a1d := a0w (fn := Tryd.f66) Tryd.func66 (by kernel_rfl)
theorem c4t : FnOk S1 G1 140 Ac.a4b := a0w (fn := Tryd.f67) Tryd.func67 (by kernel_rfl)
theorem ok49 : FnOk S1 G1 49 Ac.a2v := a0w (fn := Tryd.f68) Tryd.func68 (by kernel_rfl)
theorem c4c : FnOk S1 G1 112 Ac.a7d := a0w (fn := Tryd.f69) Tryd.func69 (by kernel_rfl)
theorem c4d : FnOk S1 G1 113 Ac.a3V := a0w (fn := Tryd.f70) Tryd.func70 (by kernel_rfl)
theorem c4E : FnOk S1 G1 153 Ac.a5b := a0w (fn := Tryd.f71) Tryd.func71 (by kernel_rfl)
theorem c4C : FnOk S1 G1 152 Ac.a6G := a0w (fn := Tryd.f72) Tryd.func72 (by kernel_rfl)
theorem c4N : FnOk S1 G1 167 Ac.a4H := a0w (fn := Tryd.f73) Tryd.func73 (by kernel_rfl)
theorem c4z : FnOk S1 G1 146 Ac.a3U := a0w (fn := Tryd.f74) Tryd.func74 (by kernel_rfl)
theorem c4f : FnOk S1 G1 118 Ac.a5M := a0w (fn := Tryd.f75) Tryd.func75 (by kernel_rfl)
theorem c4g : FnOk S1 G1 121 Ac.a4h := a0w (fn := Tryd.f76) Tryd.func76 (by kernel_rfl)
theorem c4h : FnOk S1 G1 122 Ac.a4I := a0w (fn := Tryd.f77) Tryd.func77 (by kernel_rfl)
theorem c4i : FnOk S1 G1 123 Ac.a2j := a0w (fn := Tryd.f78) Tryd.func78 (by kernel_rfl)
theorem c4A : FnOk S1 G1 150 Ac.a5Q := a0w (fn := Tryd.f79) Tryd.func79 (by kernel_rfl)
theorem c4B : FnOk S1 G1 151 Ac.a5O := a0w (fn := Tryd.f80) Tryd.func80 (by kernel_rfl)
theorem c4P : FnOk S1 G1 169 Ac.a4J := a0w (fn := Tryd.f84) Tryd.func84 (by kernel_rfl)
theorem ok64 : FnOk S1 G1 64 Ac.d8x := a0w (fn := Tryd.f86) Tryd.func86 (by kernel_rfl)
theorem ok63 : FnOk S1 G1 63 Ac.d7V := a0w (fn := Tryd.f87) Tryd.func87 (by kernel_rfl)
theorem c4j : FnOk S1 G1 127 Ac.a4f := a0w (fn := Tryd.f88) Tryd.func88 (by kernel_rfl)
theorem c4k : FnOk S1 G1 128 Ac.a5L := a0w (fn := Tryd.f89) Tryd.func89 (by kernel_rfl)
theorem c4l : FnOk S1 G1 130 Ac.a0X := a0w (fn := Tryd.f91) Tryd.func91 (by kernel_rfl)
theorem c4m : FnOk S1 G1 131 Ac.a5u := a0w (fn := Tryd.f92) Tryd.func92 (by kernel_rfl)
theorem c4R : FnOk S1 G1 171 Ac.a3m := a0w (fn := Tryd.f96) Tryd.func96 (by kernel_rfl)
theorem c4S : FnOk S1 G1 172 Ac.a3W := a0w (fn := Tryd.f97) Tryd.func97 (by kernel_rfl)
theorem c4y : FnOk S1 G1 145 Ac.a0N := a0w (fn := Tryd.f99) Tryd.func99 (by kernel_rfl)
theorem c4Z : FnOk S1 G1 188 Ac.a4G := a0w (fn := Tryd.f100) Tryd.func100 (by kernel_rfl)
theorem c5a : FnOk S1 G1 189 Ac.a3S := a0w (fn := Tryd.f101) Tryd.func101 (by kernel_rfl)
theorem c4G : FnOk S1 G1 155 Ac.a1m := a0w (fn := Tryd.f102) Tryd.func102 (by kernel_rfl)
theorem c4H : FnOk S1 G1 160 Ac.a5a := a0w (fn := Tryd.f104) Tryd.func104 (by kernel_rfl)
theorem c4M : FnOk S1 G1 164 Ac.a5n := a0w (fn := Tryd.f105) Tryd.func105 (by kernel_rfl)
theorem c4K : FnOk S1 G1 163 Ac.cmp_Compare_int := a0w (fn := Tryd.f106) Tryd.func106 (by kernel_rfl)
theorem c4V : FnOk S1 G1 176 Ac.a0D := a0w (fn := Tryd.f107) Tryd.func107 (by kernel_rfl)
theorem c4J : FnOk S1 G1 162 Ac.a1v := a0w (fn := Tryd.f108) Tryd.func108 (by kernel_rfl)
theorem c4I : FnOk S1 G1 161 Ac.a5J := a0w (fn := Tryd.f109) Tryd.func109 (by kernel_rfl)
theorem ok76 : FnOk S1 G1 76 Ac.a2Q := a0w (fn := Tryd.f110) Tryd.func110 (by kernel_rfl)
theorem c5b : FnOk S1 G1 190 Ac.a3u := a0w (fn := Tryd.f111) Tryd.func111 (by kernel_rfl)
theorem c5c : FnOk S1 G1 196 Ac.a1O := a0w (fn := Tryd.f112) Tryd.func112 (by kernel_rfl)
theorem c5d : FnOk S1 G1 197 Ac.a5v := a0w (fn := Tryd.f113) Tryd.func113 (by kernel_rfl)
theorem c4T : FnOk S1 G1 175 Ac.a1x := a0w (fn := Tryd.f114) Tryd.func114 (by kernel_rfl)
theorem c4W : FnOk S1 G1 177 Ac.cmp_isNaN_int := a0w (fn := Tryd.f116) Tryd.func116 (by kernel_rfl)
theorem c4X : FnOk S1 G1 178 Ac.a1c := a0w (fn := Tryd.f117) Tryd.func117 (by kernel_rfl)
theorem e0c : FnOk S1 G1 181 Ac.d7O := a0w (fn := Tryd.f120) Tryd.func120 (by kernel_rfl)
theorem e0d : FnOk S1 G1 183 Ac.d7L := a0w (fn := Tryd.f122) Tryd.func122 (by kernel_rfl)
theorem e0e : FnOk S1 G1 185 Ac.d7P := a0w (fn := Tryd.f124) Tryd.func124 (by kernel_rfl)
theorem c4Y : FnOk S1 G1 187 Ac.a0P := a0w (fn := Tryd.f126) Tryd.func126 (by kernel_rfl)
theorem ok83 : FnOk S1 G1 83 Ac.a3r := a0w (fn := Tryd.f127) Tryd.func127 (by kernel_rfl)
theorem e0f : FnOk S1 G1 195 Ac.d7F := a0w (fn := Tryd.f132) Tryd.func132 (by kernel_rfl)
theorem e0g : FnOk S1 G1 198 Ac.d7R := a0w (fn := Tryd.f133) Tryd.func133 (by kernel_rfl)
theorem c5e : FnOk S1 G1 199 Ac.a4g := a0w (fn := Tryd.f149) Tryd.func149 (by kernel_rfl)
theorem c5f : FnOk S1 G1 200 Ac.a3n := a0w (fn := Tryd.f151) Tryd.func151 (by kernel_rfl)
theorem c5l : FnOk S1 G1 231 Ac.a1a := a0w (fn := Tryd.f90) Tryd.func90 (by kernel_rfl)
theorem c2l : ∀ e ∈ tab, FnOk S1 G1 e.1 e.2.1 := by
 intro e he
 simp only [tab, List.mem_cons, List.not_mem_nil, or_false] at he
 rcases he with rfl | rfl | rfl | rfl | rfl | rfl | rfl | rfl | rfl | rfl | rfl | rfl | rfl | rfl | rfl | rfl | rfl | rfl | rfl | rfl | rfl | rfl | rfl | rfl | rfl | rfl | rfl | rfl | rfl | rfl | rfl | rfl | rfl | rfl | rfl | rfl | rfl | rfl | rfl | rfl | rfl | rfl | rfl | rfl | rfl | rfl | rfl | rfl | rfl | rfl | rfl | rfl | rfl | rfl | rfl | rfl | rfl | rfl | rfl | rfl | rfl | rfl | rfl | rfl | rfl | rfl | rfl | rfl | rfl | rfl | rfl | rfl | rfl | rfl | rfl | rfl | rfl | rfl | rfl | rfl | rfl | rfl | rfl | rfl | rfl
 . exact e0k
 . exact c4u
 . exact c4w
 . exact ok23
 . exact c4a
 . exact c5g
 . exact ok27
 . exact c3V
 . exact c4o
 . exact c4r
 . exact c5h
 . exact ok29
 . exact c3W
 . exact c3X
 . exact c5j
 . exact d3w
 . exact c4e
 . exact c4q
 . exact e0h
 . exact e0i
 . exact c3Y
 . exact e0j
 . exact ok28
 . exact ok30
 . exact c4n
 . exact c4O
 . exact ok33
 . exact c4s
 . exact c4v
 . exact c4p
 . exact c3Z
 . exact c4b
 . exact c4F
 . exact c4x
 . exact c4Q
 . exact c4t
 . exact ok49
 . exact c4c
 . exact c4d
 . exact c4E
 . exact c4C
 . exact c4N
 . exact c4z
 . exact c4f
 . exact c4g
 . exact c4h
 . exact c4i
 . exact c4A
 . exact c4B
 . exact c4P
 . exact ok64
 . exact ok63
 . exact c4j
 . exact c4k
 . exact c4l
 . exact c4m
 . exact c4R
 . exact c4S
 . exact c4y
 . exact c4Z
 . exact c5a
 . exact c4G
 . exact c4H
 . exact c4M
 . exact c4K
 . exact c4V
 . exact c4J
 . exact c4I
 . exact ok76
 . exact c5b
 . exact c5c
 . exact c5d
 . exact c4T
 . exact c4W
 . exact c4X
 . exact e0c
 . exact e0d
 . exact e0e
 . exact c4Y
 . exact ok83
 . exact e0f
 . exact e0g
 . exact c5e
 . exact c5f
 . exact c5l
theorem c1n : SeatOk S1 G1 where
 mixed := by kernel_rfl
 fn := fun id f h => by
   have h' : (tab.find? (·.1 == id)).map (·.2.1) = some f := h
   cases hf : tab.find? (·.1 == id) with
   | none => rw [hf] at h'; cases h'
   | some e =>
     rw [hf] at h'
     have h1 := List.mem_of_find?_eq_some hf
     have h2 := List.find?_some hf
     simp only [Option.map_some, Option.some.injEq] at h'
     have h3 : e.1 = id := by simpa using h2
     subst h' h3
     exact c2l e h1
 prim := fun id p vs h v h' _ e => by cases e
end Go.Pm
namespace Go.Pm
open T
theorem a6S (k : IntKind) (ts : List T) (cs : List C) : T.hasL (.int k :: ts) cs <-> ∃ n r, cs = .int k n :: r /\ (Lit.int k n).wf = true /\ T.hasL ts r := by
 simp only [T.hasL, T.has]
 constructor
 . rintro ⟨a, r, rfl, ⟨n, rfl, hn⟩, h⟩; exact ⟨n, r, rfl, hn, h⟩
 . rintro ⟨n, r, rfl, hn, h⟩; exact ⟨[.int k n], r, rfl, ⟨n, rfl, hn⟩, h⟩
theorem a6T (cs : List C) : T.hasL [] cs <-> cs = [] := by simp only [T.hasL]
theorem b4s : ∀ (us ts : List T) (cs : List C), T.hasL (us ++ ts) cs <-> ∃ a r, cs = a ++ r /\ T.hasL us a /\ T.hasL ts r
 | [], ts, cs => by
   simp only [List.nil_append, T.hasL]
   constructor
   . intro h; exact ⟨[], cs, rfl, rfl, h⟩
   . rintro ⟨a, r, rfl, rfl, h⟩; exact h
 | u :: us, ts, cs => by
   simp only [List.cons_append, T.hasL, b4s us ts]
   constructor
   . rintro ⟨a, r, rfl, hu, b, c, rfl, h1, h2⟩; exact ⟨a ++ b, c, by simp, ⟨a, b, rfl, hu, h1⟩, h2⟩
   . rintro ⟨_, c, rfl, ⟨a, b, rfl, hu, h1⟩, h2⟩; exact ⟨a, b ++ c, by simp, hu, b, c, rfl, h1, h2⟩
theorem c0S (us ts : List T) (cs : List C) : T.hasL (.st us :: ts) cs <-> T.hasL (us ++ ts) cs := by
 rw [b4s]; simp only [T.hasL, T.has]
theorem b5N (es : Nat) (e : T) (ts : List T) (cs : List C) : T.hasL (.sl es e :: ts) cs <-> ∃ k l r, cs = .sl k es l :: r /\ l.length <= maxLen /\ (∀ x ∈ l, T.has e x) /\ (k = .nil -> l = []) /\ (l = [] -> True) /\ T.hasL ts r := by
 simp only [T.hasL, T.has]
 constructor
 . rintro ⟨a, r, rfl, ha, h⟩
   rcases ha with rfl | ⟨k, l, rfl, hk, hl, hx⟩
   . exact ⟨.nil, [], r, rfl, Nat.zero_le _, by simp, fun _ => rfl, fun _ => trivial, h⟩
   . exact ⟨k, l, r, rfl, hl, hx, fun e => absurd e hk, fun _ => trivial, h⟩
 . rintro ⟨k, l, r, rfl, hl, hx, hk, -, h⟩
   refine ⟨[.sl k es l], r, rfl, ?_, h⟩
   by_cases e : k = .nil
   . have := hk e; subst this; subst e; exact .inl rfl
   . exact .inr ⟨k, l, rfl, e, hl, hx⟩
theorem all_map {α : Type} (e : T) (c : α -> List C) (h : ∀ x, T.has e x -> ∃ a, x = c a) : ∀ (l : List (List C)), (∀ x ∈ l, T.has e x) -> ∃ ys : List α, l = ys.map c
 | [], _ => ⟨[], rfl⟩
 | x :: l, hl => by
   obtain ⟨a, rfl⟩ := h x (hl x (by simp))
   obtain ⟨ys, rfl⟩ := all_map e c h l (fun y hy => hl y (by simp [hy]))
   exact ⟨a :: ys, rfl⟩
def i1 : T := .int .i64
theorem d9M (v : V) (h : (T.sl 1 i1).hasV v) : ∃ (k : SK) (l : List Int), (l.length <= maxLen /\ ∀ n, n ∈ l -> (Lit.int .i64 n).wf = true) /\ v = .sc (.sl k 1 (l.map fun x => [.int .i64 x])) := by
 simp only [T.hasV] at h
 obtain ⟨c, rfl, h⟩ := h
 have h' := (b5N 1 i1 [] [c]).1 (by simp only [T.hasL]; exact ⟨[c], [], rfl, h, rfl⟩)
 obtain ⟨k, l, r, hc, hl, hx, -, -, hr⟩ := h'
 rw [a6T] at hr
 subst hr
 simp only [List.cons.injEq, and_true] at hc
 subst hc
 obtain ⟨ys, rfl⟩ := all_map i1 (fun n : Int => [C.int .i64 n]) (fun x hx => by
   simp only [i1, T.has] at hx
   obtain ⟨n, rfl, -⟩ := hx
   exact ⟨n, rfl⟩) l hx
 refine ⟨k, ys, ⟨by simpa using hl, fun n hn => ?_⟩, rfl⟩
 have := hx [C.int .i64 n] (List.mem_map.2 ⟨n, hn, rfl⟩)
 simp only [i1, T.has] at this
 obtain ⟨m, hm, hw⟩ := this
 cases hm
 exact hw
theorem b9c (v : V) (h : (T.st [i1, i1]).hasV v) : ∃ a c : Int, v = .agg [.int .i64 a, .int .i64 c] := by
 simp only [T.hasV, i1] at h
 obtain ⟨cl, rfl, h⟩ := h
 simp only [a6S, a6T] at h
 obtain ⟨n, r, rfl, -, n2, r2, rfl, -, rfl⟩ := h
 exact ⟨n, n2, rfl⟩
end Go.Pm
namespace Go.Pm.St
open T
def a7c : T := .st [i1, i1]
def dayT : T := .st [i1, i1, i1]
def b3R : T := .st [i1, i1]
def b3S : T := .st [i1, i1, i1, i1]
def b3K : T := .st [.sl 2 a7c, .st [a7c, a7c, a7c], .sl 3 dayT, .sl 2 b3R, .sl 4 b3S]
theorem c1t (x : List C) (h : T.has a7c x) : ∃ d : Span, x = d.c := by
 simp only [a7c, i1, T.has, a6S, a6T] at h
 obtain ⟨n, r, rfl, -, n2, r2, rfl, -, rfl⟩ := h
 exact ⟨⟨n, n2⟩, rfl⟩
theorem c1X (x : List C) (h : T.has dayT x) : ∃ d : Day, x = d.c := by
 simp only [dayT, i1, T.has, a6S, a6T] at h
 obtain ⟨n, r, rfl, -, n2, r2, rfl, -, n3, r3, rfl, -, rfl⟩ := h
 exact ⟨⟨n, n2, n3⟩, rfl⟩
theorem rest_of (x : List C) (h : T.has b3R x) : ∃ d : Rest, x = d.c := by
 simp only [b3R, i1, T.has, a6S, a6T] at h
 obtain ⟨n, r, rfl, -, n2, r2, rfl, -, rfl⟩ := h
 exact ⟨⟨n, n2⟩, rfl⟩
theorem c1q (x : List C) (h : T.has b3S x) : ∃ d : Sign, x = d.c := by
 simp only [b3S, i1, T.has, a6S, a6T] at h
 obtain ⟨n, r, rfl, -, n2, r2, rfl, -, n3, r3, rfl, -, n4, r4, rfl, -, rfl⟩ := h
 exact ⟨⟨n, n2, n3, n4⟩, rfl⟩
theorem c0H (v : V) (h : b3K.hasV v) : ∃ b : Book, v = .agg b.c /\ b.Fits := by
 simp only [b3K, T.hasV] at h
 obtain ⟨cl, rfl, h⟩ := h
 rw [b5N] at h
 obtain ⟨k0, l0, r0, rfl, m0, a0, -, -, h⟩ := h
 simp only [show (T.st [a7c, a7c, a7c]) = .st [.st [i1, i1], .st [i1, i1], .st [i1, i1]] from rfl, show i1 = T.int .i64 from rfl, a6S, c0S, b5N, List.cons_append, List.nil_append, a6T] at h
 obtain ⟨n, r, rfl, -, n2, r2, rfl, -, n3, r3, rfl, -, n4, r4, rfl, -, n5, r5, rfl, -, n6, r6, rfl, -, k1, l1, r9, rfl, m1, a1, -, -, k2, l2, r10, rfl, m2, a2, -, -, k3, l3, r11, rfl, m3, a3, -, -, rfl⟩ := h
 obtain ⟨ss, rfl⟩ := all_map a7c Span.c c1t l0 a0
 obtain ⟨ds, rfl⟩ := all_map dayT Day.c c1X l1 a1
 obtain ⟨rs, rfl⟩ := all_map b3R Rest.c rest_of l2 a2
 obtain ⟨gs, rfl⟩ := all_map b3S Sign.c c1q l3 a3
 refine ⟨⟨k0, ss, ⟨n, n2⟩, ⟨n3, n4⟩, ⟨n5, n6⟩, k1, ds, k2, rs, k3, gs⟩, rfl, ⟨?_, ?_, ?_, ?_⟩⟩
 . simpa [maxLen] using m0
 . simpa [maxLen] using m1
 . simpa [maxLen] using m2
 . simpa [maxLen] using m3
end Go.Pm.St
namespace Go.Proofs.YtjmjifbnckecjaaDoor
open Go Go.Pm Go.ChangeShapes Go.WideShapes Go.ChangeAt Go.RowKit
instance p04 : P04 Γ1 := by constructor <;> rfl
instance g04 : St.G04 Γ1 := ⟨rfl, rfl⟩
theorem own : ownKnob Tryd.prog.godebug = none := by kernel_rfl
theorem laidOut : laidOutB Tryd.prog = true := by kernel_rfl
def b1Y : List (String × DataW Unit) := [("decani/strain.nowhere", Rows.laid_decani_strain_nowhere), ("decani/strain.ways", Rows.laid_decani_strain_ways)]
theorem door_met (os : Os) (args : Array Value) : laidMetH Tryd.prog b1Y ((World.doorLaid Tryd.prog 600 os).forCall (fun _ _ => 0) ⟨#[], args, []⟩).memory :=
 laidMetH_of_parts3 (fuel := 8) (laidMet_of_run' 8 (by kernel_rfl) (by kernel_rfl)) (by kernel_rfl) (by kernel_rfl)
def b9l : List UInt8 := [40, 100, 101, 99, 97, 110, 105, 47, 115, 116, 114, 97, 105, 110, 46, 99, 111, 115, 116, 115, 41, 46, 114, 101, 115, 116]
def b9m : List UInt8 := [40, 100, 101, 99, 97, 110, 105, 47, 115, 116, 114, 97, 105, 110, 46, 99, 111, 115, 116, 115, 41, 46, 115, 105, 110, 103]
theorem globs {w : World} (h : laidMetH Tryd.prog b1Y w) : ∀ id ∈ G1, RC S1 (.start w) (.eptr (S1.Γ.glob id) 0) (.pointer (some ⟨S1.gm id, 0, none⟩)) := by
 intro id hid
 have : id = 3 \/ id = 4 := by simpa [G1] using hid
 rcases this with rfl | rfl
 . exact b7x (S := S1) (n := "decani/strain.nowhere") (b := 0) (t := 140) (k := 2) (d := 8) (zs := [-1, -1]) h (List.Mem.head _) (by kernel_rfl) (by kernel_rfl) (by kernel_rfl)
 . exact b6t (S := S1) (n := "decani/strain.ways") (b := 1) (t := 151) (e := 150) (k := 2) (ps := #[115, 3, 58]) (rs := #[3]) (va := false) (ids := [199, 200]) (names := [b9l, b9m]) h (List.Mem.tail _ (List.Mem.head _)) (by kernel_rfl) (by kernel_rfl) (by kernel_rfl) (by kernel_rfl) (by kernel_rfl) (by kernel_rfl) rfl rfl (by kernel_rfl)
end Go.Proofs.YtjmjifbnckecjaaDoor
namespace Go.Proofs.YtjmjifbnckecjaaDoor
open Go Go.Pm Go.Pm.St Go.ChangeShapes Go.WideShapes Go.ChangeAt Go.RowKit
theorem lifted (os : Os) (started : os.Started) (H : Type) (enc : TypeId × Value -> H) :
   ReturnsInHanded {} Tryd.checked os 8 .any (fun w args => (Rows.strainTrueSpec.pre enc Tryd.prog Tryd.f8 [] false w args /\ laidMetH Tryd.prog b1Y w) /\ sizedMet enc Tryd.prog Tryd.f8 (OpenSpec.ofChange Rows.strainTrueSpec) false w args)
     (Rows.strainTrueSpec.post enc Tryd.prog Tryd.f8 false true false false) := by
 refine returnsInHanded_of_change_and (C := Tryd.checked) (X := fun w _ => laidMetH Tryd.prog b1Y w) (fun _ _ _ hh h => h.of_heap hh) own started (by kernel_rfl) Tryd.func8
   (ChangeSpec.witness_shaped (enc := enc) (C := Tryd.checked) (os := os) (X := fun w _ => laidMetH Tryd.prog b1Y w) false (World.doorLaid Tryd.prog 600 os) #[.agg #[.slice none 0 0, .int .i64 0, .int .i64 0, .int .i64 0, .int .i64 0, .int .i64 0, .int .i64 0, .slice none 0 0, .slice none 0 0, .slice none 0 0], .slice none 0 0, .agg #[.int .i64 0, .int .i64 0]] 8 rfl (World.shaped_of_RefB (by kernel_rfl) (by kernel_rfl)) (by kernel_rfl) (by kernel_rfl) (by kernel_rfl) (door_met os _)) ?_
 intro W base args ds gs before hval hW _ _ hL _
 refine b4C (S := S1) (G := G1) (id := 225) (tb := 4) (base := base) c1n 8 [b3K, (T.sl 1 i1), (T.st [i1, i1])] (by kernel_rfl) (by kernel_rfl) laidOut (by kernel_rfl) (by kernel_rfl) rfl ?_ ?_ hval hW (globs hL)
 . intro ds hd
   match ds, hd with
   | [d0, d1, d2], _ => rfl
 . show ∀ vs, a6Z [b3K, (T.sl 1 i1), (T.st [i1, i1])] vs -> K Γ1 (.fn 225) vs [] = some (.sc (.bool true), [])
   intro vs hvs
   simp only [a6Z] at hvs
   obtain ⟨v0, r0, rfl, h0, v1, r1, rfl, h1, v2, r2, rfl, h2, rfl⟩ := hvs
   obtain ⟨b, rfl, hb⟩ := c0H _ h0
   haveI := hb
   obtain ⟨kl, l, hl, rfl⟩ := d9M _ h1
   obtain ⟨n0, n1, rfl⟩ := b9c _ h2
   exact d9j (Γ := Γ1) b kl l (Nat.le_trans hl.1 (by decide)) n0 n1
theorem b8f : Rows.StrainTrueSaid :=
 OpenClaim.holds_of_wide 8 Tryd.f8 rfl rfl rfl rfl rfl rfl rfl ⟨rfl, rfl, rfl, rfl, rfl⟩ rfl rfl rfl rfl rfl (by kernel_rfl) Tryd.func8 (by kernel_rfl)
   (of_decide_eq_true (by kernel_rfl)) (by unfold Func.isWrapper; first | (rw [if_pos (by decide +kernel)]; kernel_rfl) | (rw [if_neg (by decide +kernel)]; exact ⟨rfl, rfl⟩))
   (fun os started H enc _ => lifted os started H enc)
theorem strainTrue_card_holds : Rows.StrainTrueCardSaid :=
 Claim7.holds_tied_plain_at .later [] [.data, .funcs] true (true, "020f958e95988743d1e347f53d218a9a927e4240d60c5912d862e6fb65aee05e") false
   b8f (fun _ h => by cases h) (by kernel_rfl) (fun _ h => by cases h) strainTrue_row_tie rfl ⟨rfl, rfl⟩ (by kernel_rfl) rfl
   (fun f fn hf hfn => by
     obtain rfl : f = 8 := Option.some.inj ((show Tryd.prog.funcNamed "decani/decanilaw04.StrainTrue" = some 8 by kernel_rfl).symm.trans hf) |>.symm
     obtain rfl : fn = Tryd.f8 := (Option.some.inj (Tryd.func8.symm.trans hfn)).symm
     exact ⟨by kernel_rfl, fun j t ht => by
       have hp : Tryd.f8.params = #[30, 36, 42] := by kernel_rfl
       rw [hp] at ht
       have hm : t ∈ ([30, 36, 42] : List TypeId) := by simpa using Array.mem_of_getElem? ht
       have hall : (([30, 36, 42] : List TypeId).all fun u => !Tryd.prog.wantsStandIn u) = true := by kernel_rfl
       exact (show Tryd.prog.wantsStandIn t = false by simpa using List.all_eq_true.1 hall t hm)⟩)
   (by kernel_rfl)
#print axioms strainTrue_card_holds
end Go.Proofs.YtjmjifbnckecjaaDoor

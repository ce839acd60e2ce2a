/- The statement StrainPlans, part 5. -/
import Derived.Test.YtjmjifbnckecjaaGreatDoorW1
import Derived.Attr
set_option linter.all false
set_option maxRecDepth 100000
namespace Go.Pm.Ac
open Go.Pm
def a2t : Fn := ⟨2, 37, [(4, none), (5, none)],
 (.seq (.region 2 [
 I 0 2 (.box 0 (.t 0)),
 I 1 3 (.box 1 (.t 1)),
 I 2 4 (.mv (kB false)),
 I 3 5 (.mv (kI 0))] false [2, 3])
 (.seq (.seq (.region 1 [
 I 0 9 (oS 10 2),
 I 1 10 (oS 10 2),
 I 2 11 (oS 4 3),
 I 3 12 (o2 154 10 11),
 I 4 13 (o2 111 9 12),
 M 5 8 13,
 I 6 14 (oE 8 0),
 I 7 15 (oE 8 1),
 ⟨8, some 6, .alloc 0 [.sl .nil 2 [], .int .i64 0, .int .i64 0, .int .i64 0, .int .i64 0, .int .i64 0, .int .i64 0, .sl .nil 3 [], .sl .nil 2 [], .sl .nil 4 [], .imap true false [], .sl .nil 4 []], none, [0, 1, 2]⟩,
 J 9 (.store 12 (.t 6) (.t 14)),
 M 10 7 15] true [2, 3, 7])
 (.seq (.region 0 [
 M 0 16 7,
 I 1 17 (.bin .neq (.t 16) (kI 0))] false [2, 3, 7, 17])
 (.cond (.t 17)
 (.seq (.region 0 [
 M 0 18 7,
 I 1 4 (.mv (kB false)),
 M 2 5 18] false [4, 5])
 (.ret))
 (.skip))))
 (.seq (.region 0 [
 I 0 19 (oF 9 2),
 I 1 20 (oL 19),
 I 2 21 (oF 9 2),
 I 3 22 (oL 21),
 I 4 23 (oN 1 22),
 I 5 24 (oF 9 2),
 I 6 25 (oL 24),
 I 7 26 (oN 1 25),
 I 8 27 (.slice 4 (.t 20) none (some (.t 23)) (some (.t 26))),
 I 9 28 (oS 4 3),
 I 10 29 (.bslice 4 1 [.int .i64 0, .int .i64 0, .int .i64 0, .int .i64 0] [(0, .t 28)]),
 I 11 30 (.append 4 (.tk 27) (.t 29)),
 I 12 31 (oF 9 2),
 J 13 (.store 1 (.t 31) (.tk 30))] true [2])
 (.seq (.region 0 [
 I 0 32 (oS 10 2),
 I 1 33 (.call true (.f 144) [.t 32, .k (.sc (.sl .nil 1 []))]),
 I 2 34 (.field 11 none (.t 33)),
 I 3 35 (oN 1 34),
 I 4 36 (oK .gtr 35 0),
 M 5 4 36,
 I 6 5 (.mv (kI 0))] false [4, 5])
 (.ret))))), false⟩
def a1U : AC :=
 (.seq (.region 0 [
 I 0 20 (.bin .lss (.t 19) (.t 18))] false [5, 18, 19, 20])
 (.seq (.cond (.t 20)
 (.skip)
 (.exit 0))
 (.seq (.block 1 (.seq (.region 0 [
 M 0 21 19,
 M 1 6 21] false [5, 6, 18, 19])
 (.seq (.region 0 [
 I 0 23 (oL 5),
 M 1 24 6,
 I 2 25 (.call false (.t 23) [.k (.sc (.sl .nil 1 [])), .t 24]),
 M 3 22 25,
 I 4 26 (oE 22 0),
 I 5 27 (oE 22 1),
 M 6 7 26,
 M 7 8 27] false [5, 7, 8, 18, 19])
 (.seq (.region 0 [
 M 0 28 8] false [5, 7, 18, 19, 28])
 (.cond (.t 28)
 (.seq (.region 0 [
 M 0 29 7,
 M 1 30 7,
 I 2 31 (oN 1 30),
 M 3 32 7,
 I 4 33 (oN 1 32),
 I 5 34 (.slice 1 (.t 29) none (some (.t 31)) (some (.t 33))),
 M 6 2 34,
 I 7 3 (.mv (kI 0))] false [2, 3])
 (.ret))
 (.skip))))))
 (.region 0 [
 I 0 35 (oK .add 19 1),
 M 1 19 35] false [5, 18, 19]))))
def a8t : AC := .loop [5, 18, 19] a1U
def a4l : Fn := ⟨1, 36, [(2, none), (3, none)],
 (.seq (.region 1 [
 I 0 1 (.box 0 (.t 0)),
 I 1 2 (.mv (.k (.sc (.sl .nil 1 [])))),
 I 2 3 (.mv (kI 0))] false [1])
 (.frz 1 (.seq (.seq (.region 0 [
 I 0 9 (oS 10 1),
 I 1 10 (o1 117 9),
 M 2 4 10] false [1, 4])
 (.seq (.region 0 [
 M 0 11 4,
 I 1 12 (.bin .neq (.t 11) (kI 0))] false [1, 4, 12])
 (.cond (.t 12)
 (.seq (.region 0 [
 M 0 13 4,
 I 1 2 (.mv (.k (.sc (.sl .nil 1 [])))),
 M 2 3 13] false [2, 3])
 (.ret))
 (.skip))))
 (.seq (.region 1 [
 I 0 5 (.alloc 0 [.nilf])] false [1, 5])
 (.seq (.region 0 [
 I 0 14 (.mkf 170 [] [] [.t 1, .t 5]),
 J 1 (.store 1 (.t 5) (.t 14))] false [1, 5])
 (.seq (.seq (.region 0 [
 I 0 15 (oF 9 1),
 I 1 16 (oL 15),
 I 2 17 (oN 1 16),
 I 3 18 (oK .add 17 1),
 I 4 19 (.mv (kI 0))] false [5, 18, 19])
 (.block 0 (a8t)))
 (.seq (.region 0 [
 I 0 2 (.mv (.k (.sc (.sl .nil 1 [])))),
 I 1 3 (.mv (kI 0))] false [2, 3])
 (.ret)))))))), false⟩
def a1b : AC :=
 (.seq (.seq (.region 0 [
 M 0 12 5,
 M 1 13 12,
 Y 2 14 13 (oM 6),
 Y 3 15 13 (oM 0),
 Y 4 16 13 (oN 1 15),
 Y 5 17 13 (oB .lss 14 16),
 I 6 18 (.pick (.t 13) (.t 17) (kB false))] false [0, 1, 5, 6, 18])
 (.cond (.t 18)
 (.skip)
 (.exit 0)))
 (.seq (.block 1 (.region 0 [
 M 0 21 0,
 M 1 22 6,
 I 2 23 (oI 1 21 22),
 I 3 24 (oL 23),
 M 4 25 1,
 M 5 26 6,
 I 6 27 (oI 1 25 26),
 I 7 28 (oL 27),
 I 8 29 (oB .eql 24 28),
 M 9 5 29] true [0, 1, 5, 6]))
 (.region 0 [
 M 0 19 6,
 I 1 20 (oK .add 19 1),
 M 2 6 20] false [0, 1, 5, 6])))
def a6n : AC := .loop [0, 1, 5, 6] a1b
def a3l : Fn := ⟨2, 31, [(4, none)],
 (.seq (.region 0 [
 I 0 4 (.mv (kB false))] false [0, 1])
 (.seq (.region 0 [
 M 0 7 0,
 I 1 8 (oN 1 7),
 M 2 9 1,
 I 3 10 (oN 1 9),
 I 4 11 (oB .eql 8 10),
 M 5 5 11] false [0, 1, 5])
 (.seq (.seq (.region 0 [
 I 0 6 (.mv (kI 0))] false [0, 1, 5, 6])
 (.block 0 (a6n)))
 (.seq (.region 0 [
 M 0 30 5,
 M 1 4 30] false [4])
 (.ret))))), false⟩
def a3M : Fn := ⟨0, 173, [(0, none)],
 (.seq (.region 0 [
 I 0 0 (.mv (kB false))] false [])
 (.seq (.region 1 [
 I 0 20 (.call true (.f 134) []),
 I 1 21 (.call true (.f 135) [.t 20, .k (.sc (.int .i64 0)), .k (.sc (.int .i64 3))]),
 M 2 19 21,
 I 3 22 (oE 19 0),
 I 4 23 (oE 19 1),
 I 5 1 (.alloc 0 [.int .i64 0, .int .i64 0]),
 J 6 (.store 2 (.t 1) (.t 22)),
 M 7 2 23] false [1, 2])
 (.seq (.region 1 [
 I 0 25 (.call true (.f 136) []),
 I 1 26 (.call true (.f 135) [.t 25, .k (.sc (.int .i64 1)), .k (.sc (.int .i64 0))]),
 M 2 24 26,
 I 3 27 (oE 24 0),
 I 4 28 (oE 24 1),
 I 5 3 (.alloc 0 [.int .i64 0, .int .i64 0]),
 J 6 (.store 2 (.t 3) (.t 27)),
 M 7 4 28] false [1, 2, 3, 4])
 (.seq (.region 1 [
 I 0 30 (.call true (.f 136) []),
 I 1 31 (.call true (.f 137) [.t 30, .k (.sc (.int .i64 0))]),
 M 2 29 31,
 I 3 32 (oE 29 0),
 I 4 33 (oE 29 1),
 I 5 5 (.alloc 0 [.int .i64 0, .int .i64 0]),
 J 6 (.store 2 (.t 5) (.t 32)),
 M 7 6 33] false [1, 2, 3, 4, 5, 6])
 (.seq (.region 0 [
 I 0 35 (.call true (.f 134) []),
 I 1 36 (.call true (.f 138) [.t 35, .k (.sc (.int .i64 1))]),
 M 2 34 36,
 I 3 37 (oE 34 0),
 I 4 38 (oE 34 1),
 M 5 7 37,
 M 6 8 38] false [1, 2, 3, 4, 5, 6, 7, 8])
 (.seq (.region 0 [
 I 0 40 (.call true (.f 134) []),
 I 1 41 (o1 101 40),
 M 2 39 41,
 I 3 42 (oE 39 0),
 I 4 43 (oE 39 1),
 I 5 44 (oE 39 2),
 M 6 9 42,
 M 7 10 43,
 M 8 11 44] false [1, 2, 3, 4, 5, 6, 7, 8, 9, 10, 11])
 (.seq (.seq (.region 0 [
 M 0 45 2,
 I 1 46 (oK .neq 45 0),
 M 2 47 46,
 U 3 48 47 (oM 4),
 U 4 49 47 (oK .neq 48 0),
 I 5 50 (oO 47 49),
 M 6 51 50,
 U 7 52 51 (oM 6),
 U 8 53 51 (oK .neq 52 0),
 I 9 54 (oO 51 53),
 M 10 55 54,
 U 11 56 55 (oM 8),
 U 12 57 55 (oK .neq 56 0),
 I 13 58 (oO 55 57),
 M 14 59 58,
 U 15 60 59 (oM 11),
 U 16 61 59 (oK .neq 60 0),
 I 17 62 (oO 59 61),
 M 18 63 62,
 U 19 64 63 (oS 2 1),
 U 20 65 63 (.call true (.f 33) [.k (.sc (.int .i64 (-2))), .k (.sc (.int .i64 5))]),
 U 21 66 63 (.eqf true ⟨true, [1, 1]⟩ (.t 64) (.t 65)),
 I 22 67 (oO 63 66),
 M 23 68 67,
 U 24 69 68 (oS 2 3),
 U 25 70 68 (.call true (.f 30) [.k (.sc (.int .i64 1))]),
 U 26 71 68 (.eqf true ⟨true, [1, 1]⟩ (.t 69) (.t 70)),
 I 27 72 (oO 68 71),
 M 28 73 72,
 U 29 74 73 (oS 2 5),
 U 30 75 73 (.call true (.f 30) [.k (.sc (.int .i64 3))]),
 U 31 76 73 (.eqf true ⟨true, [1, 1]⟩ (.t 74) (.t 75)),
 I 32 77 (oO 73 76),
 M 33 78 77,
 U 34 79 78 (oM 7),
 U 35 80 78 (oK .neq 79 2),
 I 36 81 (oO 78 80),
 M 37 82 81,
 U 38 83 82 (oM 9),
 U 39 84 82 (oK .neq 83 2),
 I 40 85 (oO 82 84),
 M 41 86 85,
 U 42 87 86 (oM 10),
 U 43 88 86 (oK .neq 87 0),
 I 44 89 (.pick (.t 86) (kB true) (.t 88))] true [89])
 (.cond (.t 89)
 (.seq (.region 0 [
 I 0 0 (.mv (kB false))] false [0])
 (.ret))
 (.skip)))
 (.seq (.region 0 [
 I 0 91 (.call true (.f 134) []),
 I 1 92 (.bslice 1 4 [.int .i64 0] [(0, .k (.sc (.int .i64 0))), (1, .k (.sc (.int .i64 0))), (2, .k (.sc (.int .i64 1))), (3, .k (.sc (.int .i64 1)))]),
 I 2 93 (o1 139 92),
 I 3 94 (o2 105 91 93),
 M 4 90 94,
 I 5 95 (oE 90 0),
 I 6 96 (oE 90 1),
 M 7 12 95,
 M 8 2 96] false [2, 12])
 (.seq (.region 0 [
 I 0 98 (.call true (.f 134) []),
 I 1 99 (o1 107 98),
 M 2 97 99,
 I 3 100 (oE 97 0),
 I 4 101 (oE 97 1),
 M 5 13 100,
 M 6 4 101] false [2, 4, 12, 13])
 (.seq (.region 0 [
 I 0 103 (.call true (.f 140) []),
 I 1 104 (o1 107 103),
 M 2 102 104,
 I 3 105 (oE 102 0),
 I 4 106 (oE 102 1),
 M 5 14 105,
 M 6 6 106] false [2, 4, 6, 12, 13, 14])
 (.seq (.region 0 [
 I 0 108 (.call true (.f 134) []),
 I 1 109 (.build [.int .i64 0, .int .i64 0, .int .i64 0, .int .i64 0] [(0, 1, .k (.sc (.int .i64 1))), (2, 1, .k (.sc (.int .i64 3))), (3, 1, .k (.sc (.int .i64 1)))]),
 I 2 110 (o2 141 108 109),
 M 3 107 110,
 I 4 111 (oE 107 0),
 I 5 112 (oE 107 1),
 M 6 15 111,
 M 7 8 112] false [2, 4, 6, 8, 12, 13, 14, 15])
 (.seq (.region 0 [
 I 0 114 (.call true (.f 142) []),
 I 1 115 (o1 143 114),
 M 2 113 115,
 I 3 116 (oE 113 0),
 I 4 117 (oE 113 1),
 M 5 16 116,
 M 6 11 117] false [2, 4, 6, 8, 11, 12, 13, 14, 15, 16])
 (.seq (.region 0 [
 I 0 119 (.call true (.f 134) []),
 I 1 120 (.bslice 1 4 [.int .i64 0] [(0, .k (.sc (.int .i64 0))), (1, .k (.sc (.int .i64 0))), (2, .k (.sc (.int .i64 1))), (3, .k (.sc (.int .i64 1)))]),
 I 2 121 (o1 139 120),
 I 3 122 (o2 103 119 121),
 M 4 118 122,
 I 5 123 (oE 118 0),
 I 6 124 (oE 118 1),
 M 7 17 123,
 M 8 18 124] false [2, 4, 6, 8, 11, 12, 13, 14, 15, 16, 17, 18])
 (.seq (.region 0 [
 M 0 125 2,
 I 1 126 (oK .eql 125 0),
 M 2 127 126,
 Y 3 128 127 (oM 4),
 Y 4 129 127 (oK .eql 128 0),
 I 5 130 (oA 127 129),
 M 6 131 130,
 Y 7 132 131 (oM 6),
 Y 8 133 131 (oK .eql 132 0),
 I 9 134 (oA 131 133),
 M 10 135 134,
 Y 11 136 135 (oM 8),
 Y 12 137 135 (oK .eql 136 0),
 I 13 138 (oA 135 137),
 M 14 139 138,
 Y 15 140 139 (oM 11),
 Y 16 141 139 (oK .eql 140 0),
 I 17 142 (oA 139 141),
 M 18 143 142,
 Y 19 144 143 (oM 18),
 Y 20 145 143 (oK .eql 144 0),
 I 21 146 (oA 143 145),
 M 22 147 146,
 Y 23 148 147 (oM 12),
 I 24 149 (oA 147 148),
 M 25 150 149,
 Y 26 151 150 (oM 13),
 Y 27 152 150 (.bslice 1 4 [.int .i64 0] [(0, .k (.sc (.int .i64 0))), (1, .k (.sc (.int .i64 0))), (2, .k (.sc (.int .i64 1))), (3, .k (.sc (.int .i64 1)))]),
 Y 28 153 150 (o1 139 152),
 Y 29 154 150 (o2 109 151 153),
 I 30 155 (oA 150 154),
 M 31 156 155,
 Y 32 157 156 (oM 14),
 Y 33 158 156 (.bslice 1 4 [.int .i64 0] [(0, .k (.sc (.int .i64 0))), (1, .k (.sc (.int .i64 0))), (2, .k (.sc (.int .i64 2))), (3, .k (.sc (.int .i64 1)))]),
 Y 34 159 156 (o1 139 158),
 Y 35 160 156 (o2 109 157 159),
 I 36 161 (oA 156 160),
 M 37 162 161,
 Y 38 163 162 (oM 15),
 I 39 164 (oA 162 163),
 M 40 165 164,
 Y 41 166 165 (oM 16),
 Y 42 167 165 (.bslice 1 1 [.int .i64 0] [(0, .k (.sc (.int .i64 0)))]),
 Y 43 168 165 (o2 23 166 167),
 I 44 169 (oA 165 168),
 M 45 170 169,
 Y 46 171 170 (oM 17),
 I 47 172 (oA 170 171),
 M 48 0 172] false [0])
 (.ret))))))))))))))), false⟩
def a1T : AC :=
 (.seq (.region 0 [
 I 0 29 (.bin .lss (.t 28) (.t 27))] false [1, 5, 6, 27, 28, 29])
 (.seq (.cond (.t 29)
 (.skip)
 (.exit 2))
 (.seq (.block 3 (.seq (.region 0 [
 M 0 30 28,
 M 1 7 30] false [1, 5, 6, 7, 27, 28])
 (.seq (.region 0 [
 I 0 31 (oS 12 5),
 M 1 32 7,
 M 2 33 6,
 I 3 34 (oF 10 5),
 I 4 35 (oL 34),
 I 5 36 (.call true (.f 113) [.t 31, .t 32, .t 33, .t 35])] false [1, 5, 6, 7, 27, 28, 36])
 (.cond (.t 36)
 (.seq (.region 0 [
 M 0 37 6,
 M 1 38 7,
 M 2 2 37,
 M 3 3 38,
 I 4 4 (.mv (kI 0))] false [2, 3, 4])
 (.ret))
 (.skip)))))
 (.region 0 [
 I 0 39 (oK .add 28 1),
 M 1 28 39] false [1, 5, 6, 27, 28]))))
def a8s : AC := .loop [1, 5, 6, 27, 28] a1T
def a4Z : AC :=
 (.seq (.seq (.region 0 [
 M 0 18 6,
 I 1 19 (oF 7 1),
 I 2 20 (oL 19),
 I 3 21 (oN 1 20),
 I 4 22 (.bin .lss (.t 18) (.t 21))] false [1, 5, 6, 22])
 (.cond (.t 22)
 (.skip)
 (.exit 0)))
 (.seq (.block 1 (.seq (.region 0 [
 I 0 25 (oF 0 1),
 I 1 26 (oL 25),
 I 2 27 (oN 1 26),
 I 3 28 (.mv (kI 0))] false [1, 5, 6, 27, 28])
 (.block 2 (a8s))))
 (.region 0 [
 M 0 23 6,
 I 1 24 (oK .add 23 1),
 M 2 6 24] false [1, 5, 6])))
def b2v : AC := .loop [1, 5, 6] a4Z
def a5i : Fn := ⟨1, 40, [(2, none), (3, none), (4, none)],
 (.seq (.region 1 [
 I 0 1 (.box 0 (.t 0)),
 I 1 2 (.mv (kI 0)),
 I 2 3 (.mv (kI 0)),
 I 3 4 (.mv (kI 0))] false [1])
 (.seq (.region 1 [
 I 0 9 (oS 10 1),
 I 1 10 (.call true (.f 111) [.t 9, .k (.sc (.bool true))]),
 M 2 8 10,
 I 3 11 (oE 8 0),
 I 4 12 (oE 8 1),
 I 5 5 (.alloc 0 [.sl .nil 2 [], .int .i64 0, .int .i64 0, .int .i64 0, .int .i64 0, .int .i64 0, .int .i64 0, .sl .nil 3 [], .sl .nil 2 [], .sl .nil 4 [], .imap true false [], .sl .nil 4 []]),
 J 6 (.store 12 (.t 5) (.t 11)),
 M 7 4 12] false [1, 4, 5])
 (.seq (.seq (.region 0 [
 M 0 13 4,
 I 1 14 (.bin .neq (.t 13) (kI 0))] false [1, 4, 5, 14])
 (.cond (.t 14)
 (.seq (.region 0 [
 M 0 15 4,
 I 1 2 (.mv (kI 0)),
 I 2 3 (.mv (kI 0)),
 M 3 4 15] false [2, 3, 4])
 (.ret))
 (.skip)))
 (.seq (.seq (.region 0 [
 I 0 16 (oS 10 1),
 I 1 17 (o1 112 16),
 M 2 6 17] false [1, 5, 6])
 (.block 0 (b2v)))
 (.seq (.region 0 [
 I 0 2 (.mv (kI 0)),
 I 1 3 (.mv (kI 0)),
 I 2 4 (.mv (kI 4))] false [2, 3, 4])
 (.ret)))))), false⟩
def a2u : Fn := ⟨3, 33, [(6, some (some 2)), (7, none)],
 (.seq (.region 2 [
 I 0 3 (.box 0 (.t 0)),
 I 1 6 (.alloc 1 [.int .i64 0, .int .i64 0]),
 I 2 7 (.mv (kI 0))] false [1, 2, 3, 6])
 (.seq (.region 1 [
 I 0 11 (oS 10 3),
 I 1 12 (oS 10 3),
 M 2 13 1,
 I 3 14 (o2 153 12 13),
 M 4 15 14,
 Y 5 16 15 (oS 10 3),
 Y 6 17 15 (oM 2),
 Y 7 18 15 (o2 152 16 17),
 I 8 19 (oA 15 18),
 I 9 20 (o2 111 11 19),
 M 10 10 20,
 I 11 21 (oE 10 0),
 I 12 22 (oE 10 1),
 ⟨13, some 8, .alloc 0 [.sl .nil 2 [], .int .i64 0, .int .i64 0, .int .i64 0, .int .i64 0, .int .i64 0, .int .i64 0, .sl .nil 3 [], .sl .nil 2 [], .sl .nil 4 [], .imap true false [], .sl .nil 4 []], none, [0, 1, 5]⟩,
 J 14 (.store 12 (.t 8) (.t 21)),
 M 15 9 22] true [1, 2, 6, 8, 9])
 (.seq (.seq (.region 0 [
 M 0 23 9,
 I 1 24 (.bin .neq (.t 23) (kI 0))] false [1, 2, 6, 8, 9, 24])
 (.cond (.t 24)
 (.seq (.region 0 [
 I 0 25 (.build [.int .i64 0, .int .i64 0] []),
 M 1 26 9,
 J 2 (.store 2 (.t 6) (.t 25)),
 M 3 7 26] false [6, 7])
 (.ret))
 (.skip)))
 (.seq (.region 0 [
 I 0 27 (oS 12 8),
 M 1 28 1,
 M 2 29 2,
 I 3 30 (oF 10 8),
 I 4 31 (oL 30),
 I 5 32 (o4 167 27 28 29 31),
 J 6 (.store 2 (.t 6) (.t 32)),
 I 7 7 (.mv (kI 0))] false [6, 7])
 (.ret))))), false⟩
def a1N : AC :=
 (.seq (.region 0 [
 I 0 24 (.bin .lss (.t 23) (.t 22))] false [1, 6, 22, 23, 24])
 (.seq (.cond (.t 24)
 (.skip)
 (.exit 0))
 (.seq (.block 1 (.seq (.region 0 [
 M 0 25 23,
 M 1 8 25] false [1, 6, 8, 22, 23])
 (.seq (.region 0 [
 I 0 26 (oS 12 6),
 M 1 27 1,
 M 2 28 8,
 I 3 29 (oF 10 6),
 I 4 30 (oL 29),
 I 5 31 (.call true (.f 146) [.t 26, .t 27, .t 28, .t 30])] false [1, 6, 8, 22, 23, 31])
 (.cond (.t 31)
 (.seq (.region 0 [
 M 0 32 8,
 M 1 4 32,
 I 2 5 (.mv (kI 0))] false [4, 5])
 (.ret))
 (.skip)))))
 (.region 0 [
 I 0 33 (oK .add 23 1),
 M 1 23 33] false [1, 6, 22, 23]))))
def b1l : AC := .loop [1, 6, 22, 23] a1N
def a1Z : Fn := ⟨2, 34, [(4, none), (5, none)],
 (.seq (.region 1 [
 I 0 2 (.box 0 (.t 0)),
 I 1 4 (.mv (kI 0)),
 I 2 5 (.mv (kI 0))] false [1, 2])
 (.seq (.region 1 [
 I 0 10 (oS 10 2),
 I 1 11 (oS 10 2),
 M 2 12 1,
 I 3 13 (o2 153 11 12),
 I 4 14 (o2 111 10 13),
 M 5 9 14,
 I 6 15 (oE 9 0),
 I 7 16 (oE 9 1),
 ⟨8, some 6, .alloc 0 [.sl .nil 2 [], .int .i64 0, .int .i64 0, .int .i64 0, .int .i64 0, .int .i64 0, .int .i64 0, .sl .nil 3 [], .sl .nil 2 [], .sl .nil 4 [], .imap true false [], .sl .nil 4 []], none, [0, 1]⟩,
 J 9 (.store 12 (.t 6) (.t 15)),
 M 10 7 16] true [1, 2, 6, 7])
 (.seq (.seq (.region 0 [
 M 0 17 7,
 I 1 18 (.bin .neq (.t 17) (kI 0))] false [1, 2, 6, 7, 18])
 (.cond (.t 18)
 (.seq (.region 0 [
 M 0 19 7,
 I 1 4 (.mv (kI 0)),
 M 2 5 19] false [4, 5])
 (.ret))
 (.skip)))
 (.seq (.seq (.region 0 [
 I 0 20 (oF 7 2),
 I 1 21 (oL 20),
 I 2 22 (oN 1 21),
 I 3 23 (.mv (kI 0))] false [1, 6, 22, 23])
 (.block 0 (b1l)))
 (.seq (.region 0 [
 I 0 4 (.mv (kI 0)),
 I 1 5 (.mv (kI 4))] false [4, 5])
 (.ret)))))), false⟩
def a2w : Fn := ⟨3, 15, [(6, none)],
 (.seq (.region 0 [
 I 0 6 (.mv (kB false))] false [0, 1, 2])
 (.seq (.region 0 [
 M 0 7 1,
 M 1 8 0,
 I 2 9 (oB .leq 7 8),
 M 3 10 9,
 Y 4 11 10 (oM 0),
 Y 5 12 10 (oM 2),
 Y 6 13 10 (oB .leq 11 12),
 I 7 14 (oA 10 13),
 M 8 6 14] false [6])
 (.ret))), false⟩
def a6B : Fn := ⟨2, 15, [(4, none), (5, none)],
 (.seq (.region 1 [
 I 0 2 (.box 0 (.t 0)),
 I 1 4 (.mv (kB false)),
 I 2 5 (.mv (kI 0))] false [1, 2])
 (.seq (.seq (.region 0 [
 I 0 7 (oS 10 2),
 I 1 8 (o1 117 7),
 M 2 6 8] false [1, 2, 6])
 (.seq (.region 0 [
 M 0 9 6,
 I 1 10 (.bin .neq (.t 9) (kI 0))] false [1, 2, 6, 10])
 (.cond (.t 10)
 (.seq (.region 0 [
 M 0 11 6,
 I 1 4 (.mv (kB false)),
 M 2 5 11] false [4, 5])
 (.ret))
 (.skip))))
 (.seq (.region 0 [
 I 0 12 (oS 10 2),
 M 1 13 1,
 I 2 14 (o2 118 12 13),
 M 3 4 14,
 I 4 5 (.mv (kI 0))] false [4, 5])
 (.ret)))), false⟩
def a1C : AC :=
 (.seq (.region 0 [
 I 0 35 (.bin .lss (.t 34) (.t 33))] false [7, 9, 33, 34, 35])
 (.seq (.cond (.t 35)
 (.skip)
 (.exit 0))
 (.seq (.block 1 (.seq (.region 0 [
 M 0 36 34,
 M 1 10 36] false [7, 9, 10, 33, 34])
 (.seq (.region 0 [
 I 0 37 (oS 12 7),
 M 1 38 10,
 M 2 39 9,
 I 3 40 (o3 122 37 38 39),
 I 4 41 (.un .not (.t 40))] false [7, 9, 33, 34, 41])
 (.cond (.t 41)
 (.seq (.region 0 [
 I 0 4 (.mv (kB false)),
 I 1 5 (.mv (kI 0))] false [4, 5])
 (.ret))
 (.skip)))))
 (.region 0 [
 I 0 42 (oK .add 34 1),
 M 1 34 42] false [7, 9, 33, 34]))))
def a9b : AC := .loop [7, 9, 33, 34] a1C
def a1F : Fn := ⟨2, 46, [(4, none), (5, none)],
 (.seq (.region 1 [
 I 0 2 (.box 0 (.t 0)),
 I 1 4 (.mv (kB false)),
 I 2 5 (.mv (kI 0))] false [1, 2])
 (.seq (.seq (.region 0 [
 I 0 11 (oS 10 2),
 I 1 12 (o1 117 11),
 M 2 6 12] false [1, 2, 6])
 (.seq (.region 0 [
 M 0 13 6,
 I 1 14 (.bin .neq (.t 13) (kI 0))] false [1, 2, 6, 14])
 (.cond (.t 14)
 (.seq (.region 0 [
 M 0 15 6,
 I 1 4 (.mv (kB false)),
 M 2 5 15] false [4, 5])
 (.ret))
 (.skip))))
 (.seq (.region 1 [
 I 0 17 (oS 10 2),
 I 1 18 (oS 10 2),
 M 2 19 1,
 I 3 20 (o2 118 18 19),
 I 4 21 (o2 111 17 20),
 M 5 16 21,
 I 6 22 (oE 16 0),
 I 7 23 (oE 16 1),
 ⟨8, some 7, .alloc 0 [.sl .nil 2 [], .int .i64 0, .int .i64 0, .int .i64 0, .int .i64 0, .int .i64 0, .int .i64 0, .sl .nil 3 [], .sl .nil 2 [], .sl .nil 4 [], .imap true false [], .sl .nil 4 []], none, [0, 1]⟩,
 J 9 (.store 12 (.t 7) (.t 22)),
 M 10 8 23] true [1, 2, 7, 8])
 (.seq (.seq (.region 0 [
 M 0 24 8,
 I 1 25 (.bin .neq (.t 24) (kI 0))] false [1, 2, 7, 8, 25])
 (.cond (.t 25)
 (.seq (.region 0 [
 M 0 26 8,
 I 1 4 (.mv (kB false)),
 M 2 5 26] false [4, 5])
 (.ret))
 (.skip)))
 (.seq (.region 0 [
 I 0 27 (oF 10 7),
 I 1 28 (oL 27),
 M 2 29 1,
 I 3 30 (o2 121 28 29),
 M 4 9 30] false [2, 7, 9])
 (.seq (.seq (.region 0 [
 I 0 31 (oF 0 2),
 I 1 32 (oL 31),
 I 2 33 (oN 1 32),
 I 3 34 (.mv (kI 0))] false [7, 9, 33, 34])
 (.block 0 (a9b)))
 (.seq (.region 0 [
 I 0 43 (oS 12 7),
 M 1 44 9,
 I 2 45 (o2 123 43 44),
 M 3 4 45,
 I 4 5 (.mv (kI 0))] false [4, 5])
 (.ret)))))))), false⟩
def a6x : AC :=
 (.seq (.region 0 [
 I 0 40 (.bin .lss (.t 39) (.t 38))] false [1, 3, 37, 38, 39, 40])
 (.seq (.cond (.t 40)
 (.skip)
 (.exit 0))
 (.seq (.block 1 (.seq (.region 1 [
 I 0 41 (oI 2 37 39),
 I 1 42 (oS 2 41),
 I 2 5 (.alloc 0 [.int .i64 0, .int .i64 0]),
 J 3 (.store 2 (.t 5) (.t 42))] false [1, 3, 5, 37, 38, 39])
 (.region 0 [
 M 0 43 3,
 M 1 44 43,
 Y 2 45 44 (oS 2 5),
 Y 3 46 44 (.call true (.f 151) [.t 45, .k (.sc (.int .i64 30)), .k (.sc (.int .i64 2))]),
 I 4 47 (oA 44 46),
 M 5 3 47] false [1, 3, 37, 38, 39])))
 (.region 0 [
 I 0 48 (oK .add 39 1),
 M 1 39 48] false [1, 3, 37, 38, 39]))))
def a8n : AC := .loop [1, 3, 37, 38, 39] a6x
def a3T : AC :=
 (.seq (.region 0 [
 I 0 52 (.bin .lss (.t 51) (kI 3))] false [1, 3, 50, 51, 52])
 (.seq (.cond (.t 52)
 (.skip)
 (.exit 2))
 (.seq (.block 3 (.seq (.region 1 [
 I 0 53 (.index 3 2 (some 2) (.t 50) (.t 51)),
 I 1 7 (.alloc 0 [.int .i64 0, .int .i64 0]),
 J 2 (.store 2 (.t 7) (.t 53))] false [1, 3, 7, 50, 51])
 (.region 0 [
 M 0 54 3,
 M 1 55 54,
 Y 2 56 55 (oS 2 7),
 Y 3 57 55 (.call true (.f 151) [.t 56, .k (.sc (.int .i64 6)), .k (.sc (.int .i64 1))]),
 I 4 58 (oA 55 57),
 M 5 3 58] false [1, 3, 50, 51])))
 (.region 0 [
 I 0 59 (oK .add 51 1),
 M 1 51 59] false [1, 3, 50, 51]))))
def a3f : AC := .loop [1, 3, 50, 51] a3T
def a6y : AC :=
 (.seq (.region 0 [
 I 0 64 (.bin .lss (.t 63) (.t 62))] false [1, 3, 61, 62, 63, 64])
 (.seq (.cond (.t 64)
 (.skip)
 (.exit 4))
 (.seq (.block 5 (.seq (.region 1 [
 I 0 65 (oI 3 61 63),
 I 1 66 (oS 3 65),
 I 2 9 (.alloc 0 [.int .i64 0, .int .i64 0, .int .i64 0]),
 J 3 (.store 3 (.t 9) (.t 66))] false [1, 3, 9, 61, 62, 63])
 (.region 0 [
 M 0 67 3,
 M 1 68 67,
 Y 2 69 68 (oF 0 9),
 Y 3 70 68 (oL 69),
 Y 4 71 68 (.call true (.f 150) [.t 70, .k (.sc (.int .i64 0)), .k (.sc (.int .i64 2))]),
 I 5 72 (oA 68 71),
 M 6 73 72,
 Y 7 74 73 (oF 1 9),
 Y 8 75 73 (oL 74),
 Y 9 76 73 (.call true (.f 150) [.t 75, .k (.sc (.int .i64 0)), .k (.sc (.int .i64 2))]),
 I 10 77 (oA 73 76),
 M 11 78 77,
 Y 12 79 78 (oF 2 9),
 Y 13 80 78 (oL 79),
 Y 14 81 78 (.call true (.f 150) [.t 80, .k (.sc (.int .i64 0)), .k (.sc (.int .i64 3))]),
 I 15 82 (oA 78 81),
 M 16 3 82] false [1, 3, 61, 62, 63])))
 (.region 0 [
 I 0 83 (oK .add 63 1),
 M 1 63 83] false [1, 3, 61, 62, 63]))))
def a8o : AC := .loop [1, 3, 61, 62, 63] a6y
def a6z : AC :=
 (.seq (.region 0 [
 I 0 88 (.bin .lss (.t 87) (.t 86))] false [1, 3, 85, 86, 87, 88])
 (.seq (.cond (.t 88)
 (.skip)
 (.exit 6))
 (.seq (.block 7 (.seq (.region 1 [
 I 0 89 (oI 2 85 87),
 I 1 90 (oS 2 89),
 I 2 11 (.alloc 0 [.int .i64 0, .int .i64 0]),
 J 3 (.store 2 (.t 11) (.t 90))] false [1, 3, 11, 85, 86, 87])
 (.region 0 [
 M 0 91 3,
 M 1 92 91,
 Y 2 93 92 (oS 10 1),
 Y 3 94 92 (oF 0 11),
 Y 4 95 92 (oL 94),
 Y 5 96 92 (o2 152 93 95),
 I 6 97 (oA 92 96),
 M 7 98 97,
 Y 8 99 98 (oS 10 1),
 Y 9 100 98 (oF 1 11),
 Y 10 101 98 (oL 100),
 Y 11 102 98 (o2 153 99 101),
 I 12 103 (oA 98 102),
 M 13 3 103] false [1, 3, 85, 86, 87])))
 (.region 0 [
 I 0 104 (oK .add 87 1),
 M 1 87 104] false [1, 3, 85, 86, 87]))))
def a8p : AC := .loop [1, 3, 85, 86, 87] a6z
def a6A : AC :=
 (.seq (.region 0 [
 I 0 109 (.bin .lss (.t 108) (.t 107))] false [1, 3, 106, 107, 108, 109])
 (.seq (.cond (.t 109)
 (.skip)
 (.exit 8))
 (.seq (.block 9 (.seq (.region 1 [
 I 0 110 (oI 4 106 108),
 I 1 111 (oS 4 110),
 I 2 13 (.alloc 0 [.int .i64 0, .int .i64 0, .int .i64 0, .int .i64 0]),
 J 3 (.store 4 (.t 13) (.t 111))] false [1, 3, 13, 106, 107, 108])
 (.region 0 [
 M 0 112 3,
 M 1 113 112,
 Y 2 114 113 (oS 10 1),
 Y 3 115 113 (oS 4 13),
 Y 4 116 113 (o2 154 114 115),
 I 5 117 (oA 113 116),
 M 6 3 117] false [1, 3, 106, 107, 108])))
 (.region 0 [
 I 0 118 (oK .add 108 1),
 M 1 108 118] false [1, 3, 106, 107, 108]))))
def a8q : AC := .loop [1, 3, 106, 107, 108] a6A
def a6w : Fn := ⟨1, 121, [(2, none)],
 (.seq (.region 1 [
 I 0 1 (.box 0 (.t 0)),
 I 1 2 (.mv (kI 0))] false [1])
 (.seq (.region 0 [
 I 0 14 (oF 0 1),
 I 1 15 (oL 14),
 I 2 16 (oN 1 15),
 I 3 17 (.call true (.f 150) [.t 16, .k (.sc (.int .i64 1)), .k (.sc (.int .i64 3))]),
 M 4 18 17,
 Y 5 19 18 (oF 7 1),
 Y 6 20 18 (oL 19),
 Y 7 21 18 (oN 1 20),
 Y 8 22 18 (.call true (.f 150) [.t 21, .k (.sc (.int .i64 1)), .k (.sc (.int .i64 5))]),
 I 9 23 (oA 18 22),
 M 10 24 23,
 Y 11 25 24 (oF 8 1),
 Y 12 26 24 (oL 25),
 Y 13 27 24 (oN 1 26),
 Y 14 28 24 (oK .leq 27 6),
 I 15 29 (oA 24 28),
 M 16 30 29,
 Y 17 31 30 (oF 9 1),
 Y 18 32 30 (oL 31),
 Y 19 33 30 (oN 1 32),
 Y 20 34 30 (oK .leq 33 4),
 I 21 35 (oA 30 34),
 M 22 3 35] false [1, 3])
 (.seq (.seq (.region 0 [
 I 0 36 (oF 0 1),
 I 1 37 (oL 36),
 I 2 38 (oN 1 37),
 I 3 39 (.mv (kI 0))] false [1, 3, 37, 38, 39])
 (.block 0 (a8n)))
 (.seq (.seq (.region 0 [
 I 0 49 (oF 1 1),
 I 1 50 (oS 6 49),
 I 2 51 (.mv (kI 0))] false [1, 3, 50, 51])
 (.block 2 (a3f)))
 (.seq (.seq (.region 0 [
 I 0 60 (oF 7 1),
 I 1 61 (oL 60),
 I 2 62 (oN 1 61),
 I 3 63 (.mv (kI 0))] false [1, 3, 61, 62, 63])
 (.block 4 (a8o)))
 (.seq (.seq (.region 0 [
 I 0 84 (oF 8 1),
 I 1 85 (oL 84),
 I 2 86 (oN 1 85),
 I 3 87 (.mv (kI 0))] false [1, 3, 85, 86, 87])
 (.block 6 (a8p)))
 (.seq (.seq (.region 0 [
 I 0 105 (oF 9 1),
 I 1 106 (oL 105),
 I 2 107 (oN 1 106),
 I 3 108 (.mv (kI 0))] false [1, 3, 106, 107, 108])
 (.block 8 (a8q)))
 (.seq (.seq (.region 0 [
 M 0 119 3,
 I 1 120 (.un .not (.t 119))] false [120])
 (.cond (.t 120)
 (.seq (.region 0 [
 I 0 2 (.mv (kI 40))] false [2])
 (.ret))
 (.skip)))
 (.seq (.region 0 [
 I 0 2 (.mv (kI 0))] false [2])
 (.ret)))))))))), false⟩
def d4x : AC :=
 (.seq (.seq (.region 0 [
 M 0 32 3,
 M 1 33 32,
 Y 2 34 33 (oM 4),
 Y 3 35 33 (oF 0 1),
 Y 4 36 33 (oL 35),
 Y 5 37 33 (oN 1 36),
 Y 6 38 33 (oB .lss 34 37),
 I 7 39 (.pick (.t 33) (.t 38) (kB false))] false [1, 3, 4, 39])
 (.cond (.t 39)
 (.skip)
 (.exit 0)))
 (.seq (.block 1 (.region 0 [
 I 0 42 (oF 0 1),
 I 1 43 (oL 42),
 M 2 44 4,
 I 3 45 (oI 2 43 44),
 I 4 46 (oS 2 45),
 I 5 47 (.call true (.f 49) [.t 46, .k (.sc (.int .i64 0)), .k (.sc (.int .i64 30)), .k (.sc (.int .i64 2))]),
 M 6 3 47] false [1, 3, 4]))
 (.region 0 [
 M 0 40 4,
 I 1 41 (oK .add 40 1),
 M 2 4 41] false [1, 3, 4])))
def d4B : AC := .loop [1, 3, 4] d4x
def d4y : AC :=
 (.seq (.seq (.region 0 [
 M 0 48 3,
 M 1 49 48,
 Y 2 50 49 (oM 5),
 Y 3 51 49 (oK .lss 50 3),
 I 4 52 (.pick (.t 49) (.t 51) (kB false))] false [1, 3, 5, 52])
 (.cond (.t 52)
 (.skip)
 (.exit 2)))
 (.seq (.block 3 (.region 0 [
 M 0 55 5,
 I 1 56 (oF 1 1),
 I 2 57 (.iarr 3 2 (.t 56) (.t 55)),
 I 3 58 (oS 2 57),
 I 4 59 (.call true (.f 49) [.t 58, .k (.sc (.int .i64 0)), .k (.sc (.int .i64 6)), .k (.sc (.int .i64 1))]),
 M 5 3 59] false [1, 3, 5]))
 (.region 0 [
 M 0 53 5,
 I 1 54 (oK .add 53 1),
 M 2 5 54] false [1, 3, 5])))
def d4C : AC := .loop [1, 3, 5] d4y
def d4v : AC :=
 (.seq (.seq (.region 0 [
 M 0 60 3,
 M 1 61 60,
 Y 2 62 61 (oM 6),
 Y 3 63 61 (oF 7 1),
 Y 4 64 61 (oL 63),
 Y 5 65 61 (oN 1 64),
 Y 6 66 61 (oB .lss 62 65),
 I 7 67 (.pick (.t 61) (.t 66) (kB false))] false [1, 3, 6, 67])
 (.cond (.t 67)
 (.skip)
 (.exit 4)))
 (.seq (.block 5 (.seq (.region 1 [
 I 0 70 (oF 7 1),
 I 1 71 (oL 70),
 M 2 72 6,
 I 3 73 (oI 3 71 72),
 I 4 74 (oS 3 73),
 I 5 7 (.alloc 0 [.int .i64 0, .int .i64 0, .int .i64 0]),
 J 6 (.store 3 (.t 7) (.t 74))] false [1, 6, 7])
 (.region 0 [
 I 0 75 (oF 0 7),
 I 1 76 (oL 75),
 I 2 77 (.call true (.f 29) [.t 76, .k (.sc (.int .i64 0)), .k (.sc (.int .i64 2))]),
 M 3 78 77,
 Y 4 79 78 (oF 1 7),
 Y 5 80 78 (oL 79),
 Y 6 81 78 (.call true (.f 29) [.t 80, .k (.sc (.int .i64 0)), .k (.sc (.int .i64 2))]),
 I 7 82 (oA 78 81),
 M 8 83 82,
 Y 9 84 83 (oF 2 7),
 Y 10 85 83 (oL 84),
 Y 11 86 83 (.call true (.f 29) [.t 85, .k (.sc (.int .i64 0)), .k (.sc (.int .i64 3))]),
 I 12 87 (oA 83 86),
 M 13 3 87] false [1, 3, 6])))
 (.region 0 [
 M 0 68 6,
 I 1 69 (oK .add 68 1),
 M 2 6 69] false [1, 3, 6])))
def d4D : AC := .loop [1, 3, 6] d4v
def d4w : AC :=
 (.seq (.seq (.region 0 [
 M 0 88 3,
 M 1 89 88,
 Y 2 90 89 (oM 8),
 Y 3 91 89 (oF 8 1),
 Y 4 92 89 (oL 91),
 Y 5 93 89 (oN 1 92),
 Y 6 94 89 (oB .lss 90 93),
 I 7 95 (.pick (.t 89) (.t 94) (kB false))] false [1, 3, 8, 95])
 (.cond (.t 95)
 (.skip)
 (.exit 6)))
 (.seq (.block 7 (.region 0 [
 I 0 98 (oS 10 1),
 I 1 99 (oF 8 1),
 I 2 100 (oL 99),
 M 3 101 8,
 I 4 102 (oI 2 100 101),
 I 5 103 (oF 0 102),
 I 6 104 (oL 103),
 I 7 105 (o2 156 98 104),
 M 8 106 105,
 Y 9 107 106 (oS 10 1),
 Y 10 108 106 (oF 8 1),
 Y 11 109 106 (oL 108),
 Y 12 110 106 (oM 8),
 Y 13 111 106 (oI 2 109 110),
 Y 14 112 106 (oF 1 111),
 Y 15 113 106 (oL 112),
 Y 16 114 106 (o2 157 107 113),
 I 17 115 (oA 106 114),
 M 18 3 115] true [1, 3, 8]))
 (.region 0 [
 M 0 96 8,
 I 1 97 (oK .add 96 1),
 M 2 8 97] false [1, 3, 8])))
def d4E : AC := .loop [1, 3, 8] d4w
def d4z : AC :=
 (.seq (.seq (.region 0 [
 M 0 116 3,
 M 1 117 116,
 Y 2 118 117 (oM 9),
 Y 3 119 117 (oF 9 1),
 Y 4 120 117 (oL 119),
 Y 5 121 117 (oN 1 120),
 Y 6 122 117 (oB .lss 118 121),
 I 7 123 (.pick (.t 117) (.t 122) (kB false))] false [1, 3, 9, 123])
 (.cond (.t 123)
 (.skip)
 (.exit 8)))
 (.seq (.block 9 (.region 0 [
 I 0 126 (oS 10 1),
 I 1 127 (oF 9 1),
 I 2 128 (oL 127),
 M 3 129 9,
 I 4 130 (oI 4 128 129),
 I 5 131 (oS 4 130),
 I 6 132 (o2 158 126 131),
 M 7 3 132] true [1, 3, 9]))
 (.region 0 [
 M 0 124 9,
 I 1 125 (oK .add 124 1),
 M 2 9 125] false [1, 3, 9])))
def d4F : AC := .loop [1, 3, 9] d4z
def d4H : Fn := ⟨1, 135, [(2, none)],
 (.seq (.region 1 [
 I 0 1 (.box 0 (.t 0)),
 I 1 2 (.mv (kI 0))] false [1])
 (.seq (.region 0 [
 I 0 10 (oF 0 1),
 I 1 11 (oL 10),
 I 2 12 (oN 1 11),
 I 3 13 (.call true (.f 29) [.t 12, .k (.sc (.int .i64 1)), .k (.sc (.int .i64 3))]),
 M 4 14 13,
 Y 5 15 14 (oF 7 1),
 Y 6 16 14 (oL 15),
 Y 7 17 14 (oN 1 16),
 Y 8 18 14 (.call true (.f 29) [.t 17, .k (.sc (.int .i64 1)), .k (.sc (.int .i64 5))]),
 I 9 19 (oA 14 18),
 M 10 20 19,
 Y 11 21 20 (oF 8 1),
 Y 12 22 20 (oL 21),
 Y 13 23 20 (oN 1 22),
 Y 14 24 20 (oK .leq 23 6),
 I 15 25 (oA 20 24),
 M 16 26 25,
 Y 17 27 26 (oF 9 1),
 Y 18 28 26 (oL 27),
 Y 19 29 26 (oN 1 28),
 Y 20 30 26 (oK .leq 29 4),
 I 21 31 (oA 26 30),
 M 22 3 31] false [1, 3])
 (.seq (.seq (.region 0 [
 I 0 4 (.mv (kI 0))] false [1, 3, 4])
 (.block 0 (d4B)))
 (.seq (.seq (.region 0 [
 I 0 5 (.mv (kI 0))] false [1, 3, 5])
 (.block 2 (d4C)))
 (.seq (.seq (.region 0 [
 I 0 6 (.mv (kI 0))] false [1, 3, 6])
 (.block 4 (d4D)))
 (.seq (.seq (.region 0 [
 I 0 8 (.mv (kI 0))] false [1, 3, 8])
 (.block 6 (d4E)))
 (.seq (.seq (.region 0 [
 I 0 9 (.mv (kI 0))] false [1, 3, 9])
 (.block 8 (d4F)))
 (.seq (.seq (.region 0 [
 M 0 133 3,
 I 1 134 (.un .not (.t 133))] false [134])
 (.cond (.t 134)
 (.seq (.region 0 [
 I 0 2 (.mv (kI 40))] false [2])
 (.ret))
 (.skip)))
 (.seq (.region 0 [
 I 0 2 (.mv (kI 0))] false [2])
 (.ret)))))))))), false⟩
def a2e : AC :=
 (.seq (.region 0 [
 I 0 37 (.bin .lss (.t 36) (.t 35))] false [1, 4, 9, 34, 35, 36, 37])
 (.seq (.cond (.t 37)
 (.skip)
 (.exit 0))
 (.seq (.block 1 (.seq (.region 1 [
 I 0 38 (oI 4 34 36),
 I 1 39 (oS 4 38),
 I 2 11 (.alloc 0 [.int .i64 0, .int .i64 0, .int .i64 0, .sl .nil 1 []]),
 J 3 (.store 4 (.t 11) (.t 39))] false [1, 4, 9, 11, 34, 35, 36])
 (.region 0 [
 I 0 40 (oF 0 9),
 I 1 41 (oL 40),
 M 2 42 1,
 I 3 43 (oF 0 11),
 I 4 44 (.iarr 3 1 (.t 43) (.t 42)),
 I 5 45 (oL 44),
 I 6 46 (.bslice 1 1 [.int .i64 0] [(0, .t 45)]),
 I 7 47 (o2 169 41 46),
 I 8 48 (oF 1 9),
 I 9 49 (oL 48),
 M 10 50 1,
 I 11 51 (oF 0 11),
 I 12 52 (.iarr 3 1 (.t 51) (.t 50)),
 I 13 53 (oL 52),
 I 14 54 (.max (.t 49) [.t 53]),
 I 15 55 (.build [.int .i64 0, .int .i64 0] [(0, 1, .t 47), (1, 1, .t 54)]),
 J 16 (.store 2 (.t 9) (.t 55))] true [1, 4, 9, 34, 35, 36])))
 (.region 0 [
 I 0 56 (oK .add 36 1),
 M 1 36 56] false [1, 4, 9, 34, 35, 36]))))
def a8r : AC := .loop [1, 4, 9, 34, 35, 36] a2e
def a2i : Fn := ⟨2, 58, [(4, some (some 2)), (5, none)],
 (.seq (.region 2 [
 I 0 2 (.box 0 (.t 0)),
 I 1 4 (.alloc 1 [.int .i64 0, .int .i64 0]),
 I 2 5 (.mv (kI 0))] false [1, 2, 4])
 (.seq (.region 1 [
 I 0 13 (oS 10 2),
 M 1 14 1,
 I 2 15 (.call true (.f 150) [.t 14, .k (.sc (.int .i64 0)), .k (.sc (.int .i64 2))]),
 I 3 16 (o2 111 13 15),
 M 4 12 16,
 I 5 17 (oE 12 0),
 I 6 18 (oE 12 1),
 ⟨7, some 6, .alloc 0 [.sl .nil 2 [], .int .i64 0, .int .i64 0, .int .i64 0, .int .i64 0, .int .i64 0, .int .i64 0, .sl .nil 3 [], .sl .nil 2 [], .sl .nil 4 [], .imap true false [], .sl .nil 4 []], none, [0]⟩,
 J 8 (.store 12 (.t 6) (.t 17)),
 M 9 7 18] true [1, 4, 6, 7])
 (.seq (.seq (.region 0 [
 M 0 19 7,
 I 1 20 (.bin .neq (.t 19) (kI 0))] false [1, 4, 6, 7, 20])
 (.cond (.t 20)
 (.seq (.region 0 [
 I 0 21 (.build [.int .i64 0, .int .i64 0] []),
 M 1 22 7,
 J 2 (.store 2 (.t 4) (.t 21)),
 M 3 5 22] false [4, 5])
 (.ret))
 (.skip)))
 (.seq (.region 0 [
 I 0 23 (oF 11 6),
 I 1 24 (oL 23),
 M 2 25 1,
 I 3 26 (.iaddr 4 (.t 24) (kI 0)),
 I 4 27 (oF 0 26),
 I 5 28 (.iarr 3 1 (.t 27) (.t 25)),
 I 6 29 (oL 28),
 M 7 8 29] false [1, 4, 6, 8])
 (.seq (.region 1 [
 M 0 30 8,
 M 1 31 8,
 I 2 32 (.build [.int .i64 0, .int .i64 0] [(0, 1, .t 30), (1, 1, .t 31)]),
 I 3 9 (.alloc 0 [.int .i64 0, .int .i64 0]),
 J 4 (.store 2 (.t 9) (.t 32))] false [1, 4, 6, 9])
 (.seq (.seq (.region 0 [
 I 0 33 (oF 11 6),
 I 1 34 (oL 33),
 I 2 35 (oN 1 34),
 I 3 36 (.mv (kI 0))] false [1, 4, 9, 34, 35, 36])
 (.block 0 (a8r)))
 (.seq (.region 0 [
 I 0 57 (oS 2 9),
 J 1 (.store 2 (.t 4) (.t 57)),
 I 2 5 (.mv (kI 0))] false [4, 5])
 (.ret)))))))), false⟩
def a2l : AC :=
 (.seq (.region 0 [
 I 0 44 (.bin .lss (.t 43) (.t 42))] false [4, 7, 8, 10, 29, 30, 33, 34, 35, 41, 42, 43, 44])
 (.seq (.cond (.t 44)
 (.skip)
 (.exit 4))
 (.seq (.block 5 (.seq (.region 0 [
 I 0 45 (oI 1 41 43),
 I 1 46 (oL 45),
 M 2 12 46] false [4, 7, 8, 10, 12, 29, 30, 33, 34, 35, 41, 42, 43])
 (.region 0 [
 I 0 47 (.mv (.tk 8)),
 M 1 48 10,
 M 2 49 10,
 I 3 50 (oN 1 49),
 M 4 51 10,
 I 5 52 (oN 1 51),
 I 6 53 (.slice 2 (.t 48) none (some (.t 50)) (some (.t 52))),
 M 7 54 12,
 I 8 55 (.append 2 (.tk 53) (.t 54)),
 I 9 56 (.bslice 1 1 [.sl .nil 2 []] [(0, .t 55)]),
 I 10 57 (.append 1 (.tk 47) (.t 56)),
 I 11 8 (.mv (.tk 57))] false [4, 7, 8, 10, 29, 30, 33, 34, 35, 41, 42, 43])))
 (.region 0 [
 I 0 58 (oK .add 43 1),
 M 1 43 58] false [4, 7, 8, 10, 29, 30, 33, 34, 35, 41, 42, 43]))))
def a8Z : AC := .loop [4, 7, 8, 10, 29, 30, 33, 34, 35, 41, 42, 43] a2l
def a2k : AC :=
 (.seq (.region 0 [
 I 0 36 (.bin .lss (.t 35) (.t 34))] false [4, 7, 8, 29, 30, 33, 34, 35, 36])
 (.seq (.cond (.t 36)
 (.skip)
 (.exit 2))
 (.seq (.block 3 (.seq (.region 0 [
 I 0 37 (oI 1 33 35),
 I 1 38 (oL 37),
 M 2 10 38] false [4, 7, 8, 10, 29, 30, 33, 34, 35])
 (.seq (.region 0 [
 I 0 39 (oS 12 4),
 M 1 40 7,
 I 2 41 (o2 127 39 40),
 I 3 42 (oN 1 41),
 I 4 43 (.mv (kI 0))] false [4, 7, 8, 10, 29, 30, 33, 34, 35, 41, 42, 43])
 (.block 4 (a8Z)))))
 (.region 0 [
 I 0 59 (oK .add 35 1),
 M 1 35 59] false [4, 7, 8, 29, 30, 33, 34, 35]))))
def a8Y : AC := .loop [4, 7, 8, 29, 30, 33, 34, 35] a2k
def a6W : AC :=
 (.seq (.region 0 [
 I 0 31 (.bin .lss (.t 30) (.t 29))] false [4, 6, 29, 30, 31])
 (.seq (.cond (.t 31)
 (.skip)
 (.exit 0))
 (.seq (.block 1 (.seq (.region 0 [
 M 0 32 30,
 M 1 7 32] false [4, 6, 7, 29, 30])
 (.seq (.region 0 [
 I 0 8 (.mv (.k (.sc (.sl .nil 1 []))))] false [4, 6, 7, 8, 29, 30])
 (.seq (.seq (.region 0 [
 M 0 33 6,
 I 1 34 (oN 1 33),
 I 2 35 (.mv (kI 0))] false [4, 7, 8, 29, 30, 33, 34, 35])
 (.block 2 (a8Y)))
 (.region 0 [
 M 0 60 8,
 M 1 6 60] false [4, 6, 29, 30])))))
 (.region 0 [
 I 0 61 (oK .add 30 1),
 M 1 30 61] false [4, 6, 29, 30]))))
def a8X : AC := .loop [4, 6, 29, 30] a6W
def a0s : AC :=
 (.seq (.region 0 [
 I 0 66 (.bin .lss (.t 65) (.t 64))] false [4, 13, 14, 15, 63, 64, 65, 66])
 (.seq (.cond (.t 66)
 (.skip)
 (.exit 6))
 (.seq (.block 7 (.seq (.region 0 [
 I 0 67 (oI 1 63 65),
 I 1 68 (oL 67),
 M 2 17 68] false [4, 13, 14, 15, 17, 63, 64, 65])
 (.seq (.seq (.region 0 [
 M 0 69 14,
 M 1 70 69,
 Y 2 71 70 (oM 17),
 Y 3 72 70 (oN 1 71),
 Y 4 73 70 (oM 13),
 Y 5 74 70 (oN 1 73),
 Y 6 75 70 (oB .gtr 72 74),
 I 7 76 (.pick (.t 70) (.t 75) (kB false))] false [4, 13, 14, 15, 17, 63, 64, 65, 76])
 (.cond (.t 76)
 (.exit 7)
 (.skip)))
 (.seq (.region 0 [
 M 0 77 17,
 I 1 78 (.call false (.f 231) [.t 77]),
 M 2 17 78] false [4, 13, 14, 15, 17, 63, 64, 65])
 (.seq (.region 0 [
 M 0 79 17,
 I 1 80 (.call false (.f 130) [.t 79, .f 131])] false [4, 13, 14, 15, 17, 63, 64, 65])
 (.frzc 17 (.seq (.region 0 [
 M 0 81 14,
 I 1 82 (oU .not 81),
 M 2 83 82,
 U 3 84 83 (oF 0 15),
 U 4 85 83 (oL 84),
 U 5 86 83 (oM 17),
 U 6 87 83 (oM 13),
 U 7 88 83 (.call true (.t 85) [.t 86, .t 87]),
 I 8 89 (oO 83 88),
 M 9 90 89,
 Y 10 91 90 (oS 12 4),
 Y 11 92 90 (oF 10 4),
 Y 12 93 90 (oL 92),
 Y 13 94 90 (oM 17),
 Y 14 95 90 (o2 121 93 94),
 Y 15 96 90 (o2 123 91 95),
 I 16 97 (.pick (.t 90) (.t 96) (kB false))] true [4, 13, 14, 15, 17, 63, 64, 65, 97])
 (.cond (.t 97)
 (.region 0 [
 M 0 98 17,
 M 1 13 98,
 I 2 14 (.mv (kB true))] false [4, 13, 14, 15, 63, 64, 65])
 (.skip)))))))))
 (.region 0 [
 I 0 99 (oK .add 65 1),
 M 1 65 99] false [4, 13, 14, 15, 63, 64, 65]))))
def a9a : AC := .loop [4, 13, 14, 15, 63, 64, 65] a0s
def a4U : Fn := ⟨1, 108, [(2, none), (3, none)],
 (.seq (.region 1 [
 I 0 1 (.box 0 (.t 0)),
 I 1 2 (.mv (.k (.sc (.sl .nil 2 [])))),
 I 2 3 (.mv (kI 0))] false [1])
 (.seq (.region 1 [
 I 0 19 (oS 10 1),
 I 1 20 (.call true (.f 111) [.t 19, .k (.sc (.bool true))]),
 M 2 18 20,
 I 3 21 (oE 18 0),
 I 4 22 (oE 18 1),
 I 5 4 (.alloc 0 [.sl .nil 2 [], .int .i64 0, .int .i64 0, .int .i64 0, .int .i64 0, .int .i64 0, .int .i64 0, .sl .nil 3 [], .sl .nil 2 [], .sl .nil 4 [], .imap true false [], .sl .nil 4 []]),
 J 6 (.store 12 (.t 4) (.t 21)),
 M 7 5 22] false [1, 4, 5])
 (.seq (.seq (.region 0 [
 M 0 23 5,
 I 1 24 (.bin .neq (.t 23) (kI 0))] false [1, 4, 5, 24])
 (.cond (.t 24)
 (.seq (.region 0 [
 M 0 25 5,
 I 1 2 (.mv (.k (.sc (.sl .nil 2 [])))),
 M 2 3 25] false [2, 3])
 (.ret))
 (.skip)))
 (.seq (.region 0 [
 I 0 26 (.bslice 1 1 [.sl .nil 2 []] [(0, .k (.sc (.sl .nil 2 [])))]),
 M 1 6 26] false [1, 4, 6])
 (.seq (.seq (.region 0 [
 I 0 27 (oF 0 1),
 I 1 28 (oL 27),
 I 2 29 (oN 1 28),
 I 3 30 (.mv (kI 0))] false [4, 6, 29, 30])
 (.block 0 (a8X)))
 (.seq (.region 0 [
 I 0 13 (.mv (.k (.sc (.sl .nil 2 []))))] false [4, 6, 13])
 (.seq (.region 1 [
 I 0 62 (.call true (.f 128) []),
 I 1 15 (.alloc 0 [.nilf]),
 I 2 14 (.mv (kB false)),
 J 3 (.store 1 (.t 15) (.t 62))] false [4, 6, 13, 14, 15])
 (.seq (.seq (.region 0 [
 M 0 63 6,
 I 1 64 (oN 1 63),
 I 2 65 (.mv (kI 0))] false [4, 13, 14, 15, 63, 64, 65])
 (.block 6 (a9a)))
 (.seq (.seq (.region 0 [
 M 0 100 14,
 I 1 101 (.un .not (.t 100))] false [13, 101])
 (.cond (.t 101)
 (.seq (.region 0 [
 I 0 2 (.mv (.k (.sc (.sl .nil 2 [])))),
 I 1 3 (.mv (kI 4))] false [2, 3])
 (.ret))
 (.skip)))
 (.seq (.region 0 [
 M 0 102 13,
 M 1 103 13,
 I 2 104 (oN 1 103),
 M 3 105 13,
 I 4 106 (oN 1 105),
 I 5 107 (.slice 2 (.t 102) none (some (.t 104)) (some (.t 106))),
 M 6 2 107,
 I 7 3 (.mv (kI 0))] false [2, 3])
 (.ret))))))))))), false⟩
def a4A : Fn := ⟨1, 6, [(2, some (some 2))],
 (.seq (.region 1 [
 I 0 2 (.alloc 0 [.int .i64 0, .int .i64 0])] false [0, 2])
 (.seq (.region 0 [
 M 0 3 0,
 M 1 4 0,
 I 2 5 (.build [.int .i64 0, .int .i64 0] [(0, 1, .t 3), (1, 1, .t 4)]),
 J 3 (.store 2 (.t 2) (.t 5))] false [2])
 (.ret))), false⟩
def a4W : Fn := ⟨0, 2, [(0, some (some 10))],
 (.seq (.region 1 [
 I 0 0 (.alloc 0 [.sl .nil 2 [], .int .i64 0, .int .i64 0, .int .i64 0, .int .i64 0, .int .i64 0, .int .i64 0, .sl .nil 3 [], .sl .nil 2 [], .sl .nil 4 []])] false [0])
 (.seq (.region 0 [
 I 0 1 (.call true (.f 168) [.k (.sc (.int .i64 1)), .k (.sc (.sl .nil 4 []))]),
 J 1 (.store 10 (.t 0) (.t 1))] false [0])
 (.ret))), false⟩
def a4s : Fn := ⟨2, 20, [(4, some (some 10))],
 (.seq (.region 1 [
 I 0 4 (.alloc 0 [.sl .nil 2 [], .int .i64 0, .int .i64 0, .int .i64 0, .int .i64 0, .int .i64 0, .int .i64 0, .sl .nil 3 [], .sl .nil 2 [], .sl .nil 4 []])] false [0, 1, 4])
 (.seq (.region 0 [
 I 0 5 (.call true (.f 33) [.k (.sc (.int .i64 10)), .k (.sc (.int .i64 11))]),
 I 1 6 (.call true (.f 30) [.k (.sc (.int .i64 8))]),
 I 2 7 (.bslice 2 2 [.int .i64 0, .int .i64 0] [(0, .t 5), (1, .t 6)]),
 I 3 8 (.call true (.f 33) [.k (.sc (.int .i64 2)), .k (.sc (.int .i64 3))]),
 I 4 9 (.call true (.f 30) [.k (.sc (.int .i64 4))]),
 I 5 10 (.call true (.f 33) [.k (.sc (.int .i64 3)), .k (.sc (.int .i64 4))]),
 I 6 11 (.build [.int .i64 0, .int .i64 0, .int .i64 0, .int .i64 0, .int .i64 0, .int .i64 0] [(0, 2, .t 8), (2, 2, .t 9), (4, 2, .t 10)]),
 I 7 12 (.build [.int .i64 0, .int .i64 0, .int .i64 0] [(0, 1, .k (.sc (.int .i64 1))), (1, 1, .k (.sc (.int .i64 1))), (2, 1, .k (.sc (.int .i64 1)))]),
 M 8 13 0,
 I 9 14 (.build [.int .i64 0, .int .i64 0, .int .i64 0] [(1, 1, .k (.sc (.int .i64 1))), (2, 1, .t 13)]),
 I 10 15 (.build [.int .i64 0, .int .i64 0, .int .i64 0] [(1, 1, .k (.sc (.int .i64 1))), (2, 1, .k (.sc (.int .i64 1)))]),
 I 11 16 (.build [.int .i64 0, .int .i64 0, .int .i64 0] [(0, 1, .k (.sc (.int .i64 2))), (2, 1, .k (.sc (.int .i64 1)))]),
 I 12 17 (.bslice 3 4 [.int .i64 0, .int .i64 0, .int .i64 0] [(0, .t 12), (1, .t 14), (2, .t 15), (3, .t 16)]),
 M 13 18 1,
 I 14 19 (.build [.sl .nil 2 [], .int .i64 0, .int .i64 0, .int .i64 0, .int .i64 0, .int .i64 0, .int .i64 0, .sl .nil 3 [], .sl .nil 2 [], .sl .nil 4 []] [(0, 1, .t 7), (1, 6, .t 11), (7, 1, .t 17), (9, 1, .t 18)]),
 J 15 (.store 10 (.t 4) (.t 19))] false [4])
 (.ret))), false⟩
def a3N : Fn := ⟨2, 8, [(4, some (some 2))],
 (.seq (.region 1 [
 I 0 4 (.alloc 0 [.int .i64 0, .int .i64 0])] false [0, 1, 4])
 (.seq (.region 0 [
 M 0 5 0,
 M 1 6 1,
 I 2 7 (.build [.int .i64 0, .int .i64 0] [(0, 1, .t 5), (1, 1, .t 6)]),
 J 3 (.store 2 (.t 4) (.t 7))] false [4])
 (.ret))), false⟩
def a6k : AC :=
 (.seq (.seq (.region 0 [
 M 0 5 4,
 I 1 6 (oK .add 5 1),
 M 2 7 0,
 I 3 8 (oN 1 7),
 I 4 9 (.bin .lss (.t 6) (.t 8))] false [0, 3, 4, 9])
 (.cond (.t 9)
 (.skip)
 (.exit 0)))
 (.seq (.block 1 (.region 0 [
 I 0 12 (.mv (.tk 3)),
 M 1 13 0,
 M 2 14 4,
 I 3 15 (oI 1 13 14),
 I 4 16 (oL 15),
 M 5 17 0,
 M 6 18 4,
 I 7 19 (oK .add 18 1),
 I 8 20 (oI 1 17 19),
 I 9 21 (oL 20),
 I 10 22 (.build [.int .i64 0, .int .i64 0] [(0, 1, .t 16), (1, 1, .t 21)]),
 I 11 23 (.bslice 2 1 [.int .i64 0, .int .i64 0] [(0, .t 22)]),
 I 12 24 (.append 2 (.tk 12) (.t 23)),
 I 13 3 (.mv (.tk 24))] true [0, 3, 4]))
 (.region 0 [
 M 0 10 4,
 I 1 11 (oK .add 10 2),
 M 2 4 11] false [0, 3, 4])))
def a6l : AC := .loop [0, 3, 4] a6k
def a4c : Fn := ⟨1, 26, [(2, none)],
 (.seq (.region 0 [
 I 0 2 (.mv (.k (.sc (.sl .nil 2 []))))] false [0])
 (.seq (.region 0 [
 I 0 3 (.mv (.k (.sc (.sl .nil 2 []))))] false [0, 3])
 (.seq (.seq (.region 0 [
 I 0 4 (.mv (kI 0))] false [0, 3, 4])
 (.block 0 (a6l)))
 (.seq (.region 0 [
 M 0 25 3,
 M 1 2 25] false [2])
 (.ret))))), false⟩
def a4z : Fn := ⟨0, 5, [(0, some (some 10))],
 (.seq (.region 1 [
 I 0 0 (.alloc 0 [.sl .nil 2 [], .int .i64 0, .int .i64 0, .int .i64 0, .int .i64 0, .int .i64 0, .int .i64 0, .sl .nil 3 [], .sl .nil 2 [], .sl .nil 4 []])] false [0])
 (.seq (.region 0 [
 I 0 1 (.build [.int .i64 0, .int .i64 0, .int .i64 0, .int .i64 0] [(2, 1, .k (.sc (.int .i64 3)))]),
 I 1 2 (.build [.int .i64 0, .int .i64 0, .int .i64 0, .int .i64 0] [(0, 1, .k (.sc (.int .i64 1))), (2, 1, .k (.sc (.int .i64 2)))]),
 I 2 3 (.bslice 4 2 [.int .i64 0, .int .i64 0, .int .i64 0, .int .i64 0] [(0, .t 1), (1, .t 2)]),
 I 3 4 (.call true (.f 168) [.k (.sc (.int .i64 1)), .t 3]),
 J 4 (.store 10 (.t 0) (.t 4))] false [0])
 (.ret))), false⟩
def a4e : Fn := ⟨0, 4, [(0, some (some 10))],
 (.seq (.region 1 [
 I 0 0 (.alloc 0 [.sl .nil 2 [], .int .i64 0, .int .i64 0, .int .i64 0, .int .i64 0, .int .i64 0, .int .i64 0, .sl .nil 3 [], .sl .nil 2 [], .sl .nil 4 []])] false [0])
 (.seq (.region 0 [
 I 0 1 (.build [.int .i64 0, .int .i64 0, .int .i64 0, .int .i64 0] [(2, 1, .k (.sc (.int .i64 3)))]),
 I 1 2 (.bslice 4 1 [.int .i64 0, .int .i64 0, .int .i64 0, .int .i64 0] [(0, .t 1)]),
 I 2 3 (.call true (.f 168) [.k (.sc (.int .i64 1)), .t 2]),
 J 3 (.store 10 (.t 0) (.t 3))] false [0])
 (.ret))), false⟩
def a1l : AC :=
 (.seq (.seq (.region 0 [
 M 0 12 5,
 M 1 13 12,
 Y 2 14 13 (oM 6),
 Y 3 15 13 (oM 0),
 Y 4 16 13 (oN 1 15),
 Y 5 17 13 (oB .lss 14 16),
 I 6 18 (.pick (.t 13) (.t 17) (kB false))] false [0, 1, 5, 6, 18])
 (.cond (.t 18)
 (.skip)
 (.exit 0)))
 (.seq (.block 1 (.region 0 [
 M 0 21 0,
 M 1 22 6,
 I 2 23 (oI 2 21 22),
 I 3 24 (oS 2 23),
 M 4 25 1,
 M 5 26 6,
 I 6 27 (oI 2 25 26),
 I 7 28 (oS 2 27),
 I 8 29 (.eqf false ⟨true, [1, 1]⟩ (.t 24) (.t 28)),
 M 9 5 29] true [0, 1, 5, 6]))
 (.region 0 [
 M 0 19 6,
 I 1 20 (oK .add 19 1),
 M 2 6 20] false [0, 1, 5, 6])))
def a6I : AC := .loop [0, 1, 5, 6] a1l
def a3x : Fn := ⟨2, 31, [(4, none)],
 (.seq (.region 0 [
 I 0 4 (.mv (kB false))] false [0, 1])
 (.seq (.region 0 [
 M 0 7 0,
 I 1 8 (oN 1 7),
 M 2 9 1,
 I 3 10 (oN 1 9),
 I 4 11 (oB .eql 8 10),
 M 5 5 11] false [0, 1, 5])
 (.seq (.seq (.region 0 [
 I 0 6 (.mv (kI 0))] false [0, 1, 5, 6])
 (.block 0 (a6I)))
 (.seq (.region 0 [
 M 0 30 5,
 M 1 4 30] false [4])
 (.ret))))), false⟩
def a3C : Fn := ⟨2, 25, [(4, some (some 12)), (5, none)],
 (.seq (.region 2 [
 I 0 2 (.box 0 (.t 0)),
 I 1 4 (.alloc 1 [.sl .nil 2 [], .int .i64 0, .int .i64 0, .int .i64 0, .int .i64 0, .int .i64 0, .int .i64 0, .sl .nil 3 [], .sl .nil 2 [], .sl .nil 4 [], .imap true false [], .sl .nil 4 []]),
 I 2 5 (.mv (kI 0))] false [1, 2, 4])
 (.seq (.seq (.region 0 [
 I 0 8 (oS 10 2),
 I 1 9 (o1 117 8),
 M 2 6 9] false [1, 2, 4, 6])
 (.seq (.region 0 [
 M 0 10 6,
 I 1 11 (.bin .neq (.t 10) (kI 0))] false [1, 2, 4, 6, 11])
 (.cond (.t 11)
 (.seq (.region 0 [
 I 0 12 (.build [.sl .nil 2 [], .int .i64 0, .int .i64 0, .int .i64 0, .int .i64 0, .int .i64 0, .int .i64 0, .sl .nil 3 [], .sl .nil 2 [], .sl .nil 4 [], .imap true false [], .sl .nil 4 []] []),
 M 1 13 6,
 J 2 (.store 12 (.t 4) (.t 12)),
 M 3 5 13] false [4, 5])
 (.ret))
 (.skip))))
 (.seq (.seq (.region 0 [
 M 0 14 1,
 I 1 15 (.un .not (.t 14))] false [2, 4, 15])
 (.cond (.t 15)
 (.seq (.region 0 [
 I 0 16 (.build [.sl .nil 2 [], .int .i64 0, .int .i64 0, .int .i64 0, .int .i64 0, .int .i64 0, .int .i64 0, .sl .nil 3 [], .sl .nil 2 [], .sl .nil 4 [], .imap true false [], .sl .nil 4 []] []),
 J 1 (.store 12 (.t 4) (.t 16)),
 I 2 5 (.mv (kI 41))] false [4, 5])
 (.ret))
 (.skip)))
 (.seq (.region 1 [
 I 0 17 (oS 10 2),
 I 1 18 (.call true (.f 144) [.t 17, .k (.sc (.sl .nil 1 []))]),
 I 2 7 (.alloc 0 [.sl .nil 2 [], .int .i64 0, .int .i64 0, .int .i64 0, .int .i64 0, .int .i64 0, .int .i64 0, .sl .nil 3 [], .sl .nil 2 [], .sl .nil 4 [], .imap true false [], .sl .nil 4 []]),
 J 3 (.store 12 (.t 7) (.t 18))] false [4, 7])
 (.seq (.seq (.region 0 [
 I 0 19 (oF 11 7),
 I 1 20 (oL 19),
 I 2 21 (oN 1 20),
 I 3 22 (.bin .eql (.t 21) (kI 0))] false [4, 7, 22])
 (.cond (.t 22)
 (.seq (.region 0 [
 I 0 23 (oS 12 7),
 J 1 (.store 12 (.t 4) (.t 23)),
 I 2 5 (.mv (kI 42))] false [4, 5])
 (.ret))
 (.skip)))
 (.seq (.region 0 [
 I 0 24 (oS 12 7),
 J 1 (.store 12 (.t 4) (.t 24)),
 I 2 5 (.mv (kI 0))] false [4, 5])
 (.ret))))))), false⟩
def a5N : Fn := ⟨2, 25, [(4, none)],
 (.seq (.region 2 [
 I 0 2 (.box 0 (.t 0)),
 I 1 3 (.box 1 (.t 1)),
 I 2 4 (.mv (kB false))] false [2, 3])
 (.seq (.region 0 [
 I 0 5 (oS 10 2),
 I 1 6 (oF 0 3),
 I 2 7 (oL 6),
 I 3 8 (o2 153 5 7),
 M 4 9 8,
 Y 5 10 9 (oS 10 2),
 Y 6 11 9 (oF 1 3),
 Y 7 12 9 (oL 11),
 Y 8 13 9 (o2 152 10 12),
 I 9 14 (oA 9 13),
 M 10 15 14,
 Y 11 16 15 (oF 2 3),
 Y 12 17 15 (oL 16),
 Y 13 18 15 (.call true (.f 150) [.t 17, .k (.sc (.int .i64 (-150))), .k (.sc (.int .i64 30))]),
 I 14 19 (oA 15 18),
 M 15 20 19,
 Y 16 21 20 (oF 3 3),
 Y 17 22 20 (oL 21),
 Y 18 23 20 (.call true (.f 150) [.t 22, .k (.sc (.int .i64 0)), .k (.sc (.int .i64 3))]),
 I 19 24 (oA 20 23),
 M 20 4 24] false [4])
 (.ret))), false⟩
def a1Q : AC :=
 (.seq (.seq (.region 0 [
 M 0 36 12,
 I 1 37 (oF 1 10),
 I 2 38 (oL 37),
 I 3 39 (.bin .leq (.t 36) (.t 38))] false [3, 5, 6, 7, 8, 9, 10, 11, 12, 27, 28, 29, 39])
 (.cond (.t 39)
 (.skip)
 (.exit 4)))
 (.seq (.block 5 (.seq (.region 0 [
 I 0 42 (oL 6),
 I 1 43 (oS 3 7),
 M 2 44 9,
 M 3 45 12,
 I 4 46 (oL 3),
 I 5 47 (.call true (.t 42) [.t 43, .t 44, .t 45, .t 46])] false [3, 5, 6, 7, 8, 9, 10, 11, 12, 27, 28, 29, 47])
 (.cond (.t 47)
 (.region 0 [
 I 0 48 (.mv (.tk 11)),
 M 1 49 12,
 I 2 50 (.bslice 1 1 [.int .i64 0] [(0, .t 49)]),
 I 3 51 (.append 1 (.tk 48) (.t 50)),
 I 4 11 (.mv (.tk 51))] false [3, 5, 6, 7, 8, 9, 10, 11, 12, 27, 28, 29])
 (.skip))))
 (.region 0 [
 M 0 40 12,
 I 1 41 (oK .add 40 1),
 M 2 12 41] false [3, 5, 6, 7, 8, 9, 10, 11, 12, 27, 28, 29])))
def a8c : AC := .loop [3, 5, 6, 7, 8, 9, 10, 11, 12, 27, 28, 29] a1Q
def a1P : AC :=
 (.seq (.region 0 [
 I 0 30 (.bin .lss (.t 29) (.t 28))] false [3, 5, 6, 7, 8, 27, 28, 29, 30])
 (.seq (.cond (.t 30)
 (.skip)
 (.exit 2))
 (.seq (.block 3 (.seq (.region 1 [
 M 0 31 29,
 I 1 32 (oI 2 27 29),
 I 2 33 (oS 2 32),
 I 3 10 (.alloc 0 [.int .i64 0, .int .i64 0]),
 M 4 9 31,
 J 5 (.store 2 (.t 10) (.t 33))] false [3, 5, 6, 7, 8, 9, 10, 27, 28, 29])
 (.seq (.region 0 [
 I 0 11 (.mv (.k (.sc (.sl .nil 1 []))))] false [3, 5, 6, 7, 8, 9, 10, 11, 27, 28, 29])
 (.seq (.seq (.region 0 [
 I 0 34 (oF 0 10),
 I 1 35 (oL 34),
 M 2 12 35] false [3, 5, 6, 7, 8, 9, 10, 11, 12, 27, 28, 29])
 (.block 4 (a8c)))
 (.seq (.seq (.region 0 [
 M 0 52 11,
 I 1 53 (oN 1 52),
 I 2 54 (.bin .eql (.t 53) (kI 0))] false [3, 5, 6, 7, 8, 11, 27, 28, 29, 54])
 (.cond (.t 54)
 (.exit 1)
 (.skip)))
 (.region 0 [
 I 0 55 (oF 3 8),
 I 1 56 (.loadT (.t 55)),
 M 2 57 11,
 I 3 58 (.bslice 1 1 [.sl .nil 1 []] [(0, .t 57)]),
 I 4 59 (.append 1 (.tk 56) (.t 58)),
 I 5 60 (oF 3 8),
 J 6 (.store 1 (.t 60) (.tk 59))] false [3, 5, 6, 7, 8, 27, 28, 29]))))))
 (.region 0 [
 I 0 61 (oK .add 29 1),
 M 1 29 61] false [3, 5, 6, 7, 8, 27, 28, 29]))))
def a5V : AC := .loop [3, 5, 6, 7, 8, 27, 28, 29] a1P
def a2x : AC :=
 (.region 1 [
 I 0 7 (.alloc 0 [.int .i64 0, .int .i64 0, .int .i64 0]),
 J 1 (.store 3 (.t 7) (.t 23))] false [2, 3, 5, 6, 7])
def a2y : AC :=
 (.block 1 (.seq (.region 1 [
 I 0 24 (oS 3 7),
 I 1 25 (.build [.int .i64 0, .int .i64 0, .int .i64 0, .sl .nil 1 []] [(0, 3, .t 24)]),
 I 2 8 (.alloc 0 [.int .i64 0, .int .i64 0, .int .i64 0, .sl .nil 1 []]),
 J 3 (.store 4 (.t 8) (.t 25))] false [2, 3, 5, 6, 7, 8])
 (.seq (.seq (.region 0 [
 I 0 26 (oF 0 2),
 I 1 27 (oL 26),
 I 2 28 (oN 1 27),
 I 3 29 (.mv (kI 0))] false [3, 5, 6, 7, 8, 27, 28, 29])
 (.block 2 (a5V)))
 (.region 0 [
 I 0 62 (oF 11 5),
 I 1 63 (.loadT (.t 62)),
 I 2 64 (oS 4 8),
 I 3 65 (.bslice 4 1 [.int .i64 0, .int .i64 0, .int .i64 0, .sl .nil 1 []] [(0, .t 64)]),
 I 4 66 (.append 4 (.tk 63) (.t 65)),
 I 5 67 (oF 11 5),
 J 6 (.store 1 (.t 67) (.tk 66))] false []))))
def a5P : Fn := ⟨2, 69, [(4, some (some 12))],
 (.seq (.region 3 [
 I 0 2 (.box 0 (.t 0)),
 I 1 3 (.box 1 (.t 1)),
 I 2 4 (.alloc 2 [.sl .nil 2 [], .int .i64 0, .int .i64 0, .int .i64 0, .int .i64 0, .int .i64 0, .int .i64 0, .sl .nil 3 [], .sl .nil 2 [], .sl .nil 4 [], .imap true false [], .sl .nil 4 []])] false [2, 3, 4])
 (.seq (.region 2 [
 I 0 13 (oS 10 2),
 ⟨1, some 14, .kset 0 2, none, [0]⟩,
 I 2 15 (oF 8 2),
 ⟨3, some 16, .load none (.t 15), none, [1]⟩,
 I 4 17 (o2 121 14 16),
 I 5 18 (.build [.sl .nil 2 [], .int .i64 0, .int .i64 0, .int .i64 0, .int .i64 0, .int .i64 0, .int .i64 0, .sl .nil 3 [], .sl .nil 2 [], .sl .nil 4 [], .imap true false [], .sl .nil 4 []] [(0, 10, .t 13), (10, 1, .t 17)]),
 ⟨6, some 5, .alloc 1 [.sl .nil 2 [], .int .i64 0, .int .i64 0, .int .i64 0, .int .i64 0, .int .i64 0, .int .i64 0, .sl .nil 3 [], .sl .nil 2 [], .sl .nil 4 [], .imap true false [], .sl .nil 4 []], none, [0, 3]⟩,
 J 7 (.store 12 (.t 5) (.t 18))] true [2, 3, 4, 5])
 (.seq (.region 1 [
 I 0 19 (oS 12 5),
 I 1 20 (.mkf 171 [some 12] [.t 19] []),
 I 2 6 (.alloc 0 [.nilf]),
 J 3 (.store 1 (.t 6) (.t 20))] false [2, 3, 4, 5, 6])
 (.seq (.seq (.region 0 [
 I 0 21 (oS 12 5),
 I 1 22 (.call true (.f 172) [.t 21])] false [2, 3, 4, 5, 6, 22])
 (.block 0 (.rfunc (.t 22) [23] a2x a2y)))
 (.seq (.region 0 [
 I 0 68 (oS 12 5),
 J 1 (.store 12 (.t 4) (.t 68))] false [4])
 (.ret)))))), false⟩
def d4I : Fn := ⟨2, 21, [(4, none), (5, none)],
 (.seq (.region 1 [
 I 0 2 (.box 0 (.t 0)),
 I 1 4 (.mv (.k (.sc (.sl .nil 3 [])))),
 I 2 5 (.mv (kI 0))] false [1, 2])
 (.seq (.seq (.region 0 [
 I 0 8 (oS 10 2),
 I 1 9 (o1 119 8),
 M 2 6 9] false [1, 2, 6])
 (.seq (.region 0 [
 M 0 10 6,
 I 1 11 (.bin .neq (.t 10) (kI 0))] false [1, 2, 6, 11])
 (.cond (.t 11)
 (.seq (.region 0 [
 M 0 12 6,
 I 1 4 (.mv (.k (.sc (.sl .nil 3 [])))),
 M 2 5 12] false [4, 5])
 (.ret))
 (.skip))))
 (.seq (.seq (.region 0 [
 M 0 13 1,
 I 1 14 (.un .not (.t 13))] false [2, 14])
 (.cond (.t 14)
 (.seq (.region 0 [
 I 0 4 (.mv (.k (.sc (.sl .nil 3 [])))),
 I 1 5 (.mv (kI 41))] false [4, 5])
 (.ret))
 (.skip)))
 (.seq (.region 0 [
 I 0 15 (oS 10 2),
 I 1 16 (.call true (.f 147) [.t 15, .k (.sc (.int .i64 0))]),
 M 2 7 16] false [7])
 (.seq (.seq (.region 0 [
 M 0 17 7,
 I 1 18 (oN 1 17),
 I 2 19 (.bin .eql (.t 18) (kI 0))] false [7, 19])
 (.cond (.t 19)
 (.seq (.region 0 [
 I 0 4 (.mv (.k (.sc (.sl .nil 3 [])))),
 I 1 5 (.mv (kI 42))] false [4, 5])
 (.ret))
 (.skip)))
 (.seq (.region 0 [
 M 0 20 7,
 M 1 4 20,
 I 2 5 (.mv (kI 0))] false [4, 5])
 (.ret))))))), false⟩
def d4G : Fn := ⟨2, 25, [(4, none)],
 (.seq (.region 2 [
 I 0 2 (.box 0 (.t 0)),
 I 1 3 (.box 1 (.t 1)),
 I 2 4 (.mv (kB false))] false [2, 3])
 (.seq (.region 0 [
 I 0 5 (oS 10 2),
 I 1 6 (oF 0 3),
 I 2 7 (oL 6),
 I 3 8 (o2 157 5 7),
 M 4 9 8,
 Y 5 10 9 (oS 10 2),
 Y 6 11 9 (oF 1 3),
 Y 7 12 9 (oL 11),
 Y 8 13 9 (o2 156 10 12),
 I 9 14 (oA 9 13),
 M 10 15 14,
 Y 11 16 15 (oF 2 3),
 Y 12 17 15 (oL 16),
 Y 13 18 15 (.call true (.f 29) [.t 17, .k (.sc (.int .i64 (-150))), .k (.sc (.int .i64 30))]),
 I 14 19 (oA 15 18),
 M 15 20 19,
 Y 16 21 20 (oF 3 3),
 Y 17 22 20 (oL 21),
 Y 18 23 20 (.call true (.f 29) [.t 22, .k (.sc (.int .i64 0)), .k (.sc (.int .i64 3))]),
 I 19 24 (oA 20 23),
 M 20 4 24] false [4])
 (.ret))), false⟩
def d4L : AC :=
 (.seq (.seq (.region 0 [
 M 0 52 10,
 M 1 53 52,
 Y 2 54 53 (oM 11),
 Y 3 55 53 (oF 0 2),
 Y 4 56 53 (oL 55),
 Y 5 57 53 (oN 1 56),
 Y 6 58 53 (oB .lss 54 57),
 I 7 59 (.pick (.t 53) (.t 58) (kB false))] false [1, 2, 5, 6, 7, 8, 9, 10, 11, 59])
 (.cond (.t 59)
 (.skip)
 (.exit 6)))
 (.seq (.block 7 (.region 0 [
 I 0 62 (oS 10 2),
 I 1 63 (oS 3 9),
 M 2 64 11,
 M 3 65 1,
 I 4 66 (o4 173 62 63 64 65),
 I 5 67 (oN 1 66),
 I 6 68 (oK .gtr 67 0),
 M 7 10 68] false [1, 2, 5, 6, 7, 8, 9, 10, 11]))
 (.region 0 [
 M 0 60 11,
 I 1 61 (oK .add 60 1),
 M 2 11 61] false [1, 2, 5, 6, 7, 8, 9, 10, 11])))
def d5r : AC := .loop [1, 2, 5, 6, 7, 8, 9, 10, 11] d4L
def d4W : AC :=
 (.seq (.seq (.region 0 [
 M 0 40 8,
 I 1 41 (oF 1 2),
 I 2 42 (.iarr 3 2 (.t 41) (kI 2)),
 I 3 43 (oF 1 42),
 I 4 44 (oL 43),
 I 5 45 (.bin .leq (.t 40) (.t 44))] false [1, 2, 5, 6, 7, 8, 45])
 (.cond (.t 45)
 (.skip)
 (.exit 4)))
 (.seq (.block 5 (.seq (.region 1 [
 M 0 48 6,
 M 1 49 7,
 M 2 50 8,
 I 3 51 (.build [.int .i64 0, .int .i64 0, .int .i64 0] [(0, 1, .t 48), (1, 1, .t 49), (2, 1, .t 50)]),
 I 4 9 (.alloc 0 [.int .i64 0, .int .i64 0, .int .i64 0]),
 J 5 (.store 3 (.t 9) (.t 51)),
 I 6 10 (.mv (kB true))] false [1, 2, 5, 6, 7, 8, 9, 10])
 (.seq (.seq (.region 0 [
 I 0 11 (.mv (kI 0))] false [1, 2, 5, 6, 7, 8, 9, 10, 11])
 (.block 6 (d5r)))
 (.seq (.region 0 [
 M 0 69 10] false [1, 2, 5, 6, 7, 8, 9, 69])
 (.cond (.t 69)
 (.region 0 [
 I 0 70 (.mv (.tk 5)),
 I 1 71 (oS 3 9),
 I 2 72 (.bslice 3 1 [.int .i64 0, .int .i64 0, .int .i64 0] [(0, .t 71)]),
 I 3 73 (.append 3 (.tk 70) (.t 72)),
 I 4 5 (.mv (.tk 73))] false [1, 2, 5, 6, 7, 8])
 (.skip))))))
 (.region 0 [
 M 0 46 8,
 I 1 47 (oK .add 46 1),
 M 2 8 47] false [1, 2, 5, 6, 7, 8])))
def d5q : AC := .loop [1, 2, 5, 6, 7, 8] d4W
def d4V : AC :=
 (.seq (.seq (.region 0 [
 M 0 28 7,
 I 1 29 (oF 1 2),
 I 2 30 (.iarr 3 2 (.t 29) (kI 1)),
 I 3 31 (oF 1 30),
 I 4 32 (oL 31),
 I 5 33 (.bin .leq (.t 28) (.t 32))] false [1, 2, 5, 6, 7, 33])
 (.cond (.t 33)
 (.skip)
 (.exit 2)))
 (.seq (.block 3 (.seq (.region 0 [
 I 0 36 (oF 1 2),
 I 1 37 (.iarr 3 2 (.t 36) (kI 2)),
 I 2 38 (oF 0 37),
 I 3 39 (oL 38),
 M 4 8 39] false [1, 2, 5, 6, 7, 8])
 (.block 4 (d5q))))
 (.region 0 [
 M 0 34 7,
 I 1 35 (oK .add 34 1),
 M 2 7 35] false [1, 2, 5, 6, 7])))
def d5p : AC := .loop [1, 2, 5, 6, 7] d4V
def d4U : AC :=
 (.seq (.seq (.region 0 [
 M 0 16 6,
 I 1 17 (oF 1 2),
 I 2 18 (.iarr 3 2 (.t 17) (kI 0)),
 I 3 19 (oF 1 18),
 I 4 20 (oL 19),
 I 5 21 (.bin .leq (.t 16) (.t 20))] false [1, 2, 5, 6, 21])
 (.cond (.t 21)
 (.skip)
 (.exit 0)))
 (.seq (.block 1 (.seq (.region 0 [
 I 0 24 (oF 1 2),
 I 1 25 (.iarr 3 2 (.t 24) (kI 1)),
 I 2 26 (oF 0 25),
 I 3 27 (oL 26),
 M 4 7 27] false [1, 2, 5, 6, 7])
 (.block 2 (d5p))))
 (.region 0 [
 M 0 22 6,
 I 1 23 (oK .add 22 1),
 M 2 6 23] false [1, 2, 5, 6])))
def d5o : AC := .loop [1, 2, 5, 6] d4U
def d5d : Fn := ⟨2, 75, [(4, none)],
 (.seq (.region 1 [
 I 0 2 (.box 0 (.t 0)),
 I 1 4 (.mv (.k (.sc (.sl .nil 3 []))))] false [1, 2])
 (.seq (.region 0 [
 I 0 5 (.mv (.k (.sc (.sl .nil 3 []))))] false [1, 2, 5])
 (.seq (.seq (.region 0 [
 I 0 12 (oF 1 2),
 I 1 13 (.iarr 3 2 (.t 12) (kI 0)),
 I 2 14 (oF 0 13),
 I 3 15 (oL 14),
 M 4 6 15] false [1, 2, 5, 6])
 (.block 0 (d5o)))
 (.seq (.region 0 [
 M 0 74 5,
 M 1 4 74] false [4])
 (.ret))))), false⟩
def a1G : AC :=
 (.seq (.seq (.region 0 [
 M 0 34 10,
 I 1 35 (oF 9 2),
 I 2 36 (oL 35),
 I 3 37 (oN 1 36),
 I 4 38 (.bin .lss (.t 34) (.t 37))] false [0, 1, 2, 3, 8, 10, 38])
 (.cond (.t 38)
 (.skip)
 (.exit 0)))
 (.seq (.block 1 (.seq (.region 0 [
 I 0 42 (oL 3),
 M 1 43 0,
 M 2 44 8,
 M 3 45 8,
 I 4 46 (.slice 1 (.t 43) none (some (.t 44)) (some (.t 45))),
 M 5 47 10,
 I 6 48 (.bslice 1 1 [.int .i64 0] [(0, .t 47)]),
 I 7 49 (.append 1 (.tk 46) (.t 48)),
 M 8 50 1,
 I 9 51 (.call false (.t 42) [.t 49, .t 50]),
 M 10 41 51,
 I 11 52 (oE 41 0),
 I 12 53 (oE 41 1),
 M 13 11 52,
 M 14 12 53] true [0, 1, 2, 3, 8, 10, 11, 12])
 (.seq (.region 0 [
 M 0 54 12] false [0, 1, 2, 3, 8, 10, 11, 54])
 (.cond (.t 54)
 (.seq (.region 0 [
 M 0 55 11,
 M 1 6 55,
 I 2 7 (.mv (kB true))] false [6, 7])
 (.ret))
 (.skip)))))
 (.region 0 [
 M 0 39 10,
 I 1 40 (oK .add 39 1),
 M 2 10 40] false [0, 1, 2, 3, 8, 10])))
def a5x : AC := .loop [0, 1, 2, 3, 8, 10] a1G
def a1d : Fn := ⟨4, 56, [(6, none), (7, none)],
 (.seq (.region 0 [
 I 0 6 (.mv (.k (.sc (.sl .nil 1 [])))),
 I 1 7 (.mv (kB false))] false [0, 1, 2, 3])
 (.seq (.region 0 [
 M 0 13 0,
 I 1 14 (oN 1 13),
 M 2 8 14] false [0, 1, 2, 3, 8])
 (.seq (.seq (.region 0 [
 M 0 15 8,
 M 1 16 1,
 I 2 17 (.bin .eql (.t 15) (.t 16))] false [0, 1, 2, 3, 8, 17])
 (.cond (.t 17)
 (.seq (.region 0 [
 M 0 18 0,
 I 1 19 (oS 10 2),
 M 2 20 0,
 I 3 21 (o2 144 19 20),
 I 4 22 (.field 11 none (.t 21)),
 I 5 23 (oN 1 22),
 I 6 24 (oK .gtr 23 0),
 M 7 6 18,
 M 8 7 24] false [6, 7])
 (.ret))
 (.skip)))
 (.seq (.region 0 [
 I 0 9 (.mv (kI 0))] false [0, 1, 2, 3, 8, 9])
 (.seq (.seq (.region 0 [
 M 0 25 8,
 I 1 26 (.bin .gtr (.t 25) (kI 0))] false [0, 1, 2, 3, 8, 9, 26])
 (.cond (.t 26)
 (.region 0 [
 M 0 27 0,
 M 1 28 8,
 I 2 29 (oK .sub 28 1),
 I 3 30 (oI 1 27 29),
 I 4 31 (oL 30),
 I 5 32 (oK .add 31 1),
 M 6 9 32] false [0, 1, 2, 3, 8, 9])
 (.skip)))
 (.seq (.seq (.region 0 [
 M 0 33 9,
 M 1 10 33] false [0, 1, 2, 3, 8, 10])
 (.block 0 (a5x)))
 (.seq (.region 0 [
 I 0 6 (.mv (.k (.sc (.sl .nil 1 [])))),
 I 1 7 (.mv (kB false))] false [6, 7])
 (.ret)))))))), false⟩
def a4b : Fn := ⟨0, 2, [(0, some (some 10))],
 (.seq (.region 1 [
 I 0 0 (.alloc 0 [.sl .nil 2 [], .int .i64 0, .int .i64 0, .int .i64 0, .int .i64 0, .int .i64 0, .int .i64 0, .sl .nil 3 [], .sl .nil 2 [], .sl .nil 4 []])] false [0])
 (.seq (.region 0 [
 I 0 1 (.call true (.f 168) [.k (.sc (.int .i64 2)), .k (.sc (.sl .nil 4 []))]),
 J 1 (.store 10 (.t 0) (.t 1))] false [0])
 (.ret))), false⟩
def a2v : Fn := ⟨4, 35, [(8, none)],
 (.seq (.region 1 [
 I 0 4 (.box 0 (.t 0)),
 I 1 8 (.mv (kB false))] false [1, 2, 3, 4])
 (.seq (.region 0 [
 M 0 9 1,
 I 1 10 (oF 0 4),
 I 2 11 (oL 10),
 I 3 12 (oB .leq 9 11),
 M 4 13 12,
 Y 5 14 13 (oF 0 4),
 Y 6 15 13 (oL 14),
 Y 7 16 13 (oF 1 4),
 Y 8 17 13 (oL 16),
 Y 9 18 13 (oB .leq 15 17),
 I 10 19 (oA 13 18),
 M 11 20 19,
 Y 12 21 20 (oF 1 4),
 Y 13 22 20 (oL 21),
 Y 14 23 20 (oM 2),
 Y 15 24 20 (oB .leq 22 23),
 I 16 25 (oA 20 24),
 M 17 26 25,
 Y 18 27 26 (oF 1 4),
 Y 19 28 26 (oL 27),
 Y 20 29 26 (oF 0 4),
 Y 21 30 26 (oL 29),
 Y 22 31 26 (oB .sub 28 30),
 Y 23 32 26 (oM 3),
 Y 24 33 26 (oB .leq 31 32),
 I 25 34 (oA 26 33),
 M 26 8 34] false [8])
 (.ret))), false⟩
def a2m : AC :=
 (.seq (.region 0 [
 I 0 10 (.bin .lss (.t 9) (.t 8))] false [3, 7, 8, 9, 10])
 (.seq (.cond (.t 10)
 (.skip)
 (.exit 0))
 (.seq (.block 1 (.seq (.region 1 [
 I 0 11 (oI 4 7 9),
 I 1 12 (oS 4 11),
 I 2 5 (.alloc 0 [.int .i64 0, .int .i64 0, .int .i64 0, .int .i64 0]),
 J 3 (.store 4 (.t 5) (.t 12))] false [3, 5, 7, 8, 9])
 (.region 0 [
 M 0 13 3,
 I 1 14 (oF 1 5),
 I 2 15 (oL 14),
 I 3 16 (oK .add 15 1),
 I 4 17 (.max (.t 13) [.t 16]),
 M 5 3 17] false [3, 7, 8, 9])))
 (.region 0 [
 I 0 18 (oK .add 9 1),
 M 1 9 18] false [3, 7, 8, 9]))))
def a9d : AC := .loop [3, 7, 8, 9] a2m
def a7d : Fn := ⟨1, 20, [(2, none)],
 (.seq (.region 1 [
 I 0 1 (.box 0 (.t 0)),
 I 1 2 (.mv (kI 0))] false [1])
 (.seq (.region 0 [
 I 0 3 (.mv (kI 0))] false [1, 3])
 (.seq (.seq (.region 0 [
 I 0 6 (oF 9 1),
 I 1 7 (oL 6),
 I 2 8 (oN 1 7),
 I 3 9 (.mv (kI 0))] false [3, 7, 8, 9])
 (.block 0 (a9d)))
 (.seq (.region 0 [
 M 0 19 3,
 M 1 2 19] false [2])
 (.ret))))), false⟩
def a3V : Fn := ⟨4, 21, [(8, none)],
 (.seq (.region 1 [
 I 0 4 (.box 0 (.t 0)),
 I 1 8 (.mv (kB false))] false [1, 2, 3, 4])
 (.seq (.region 0 [
 I 0 9 (oS 12 4),
 M 1 10 1,
 M 2 11 2,
 M 3 12 3,
 I 4 13 (o4 145 9 10 11 12),
 M 5 14 13,
 U 6 15 14 (oS 12 4),
 U 7 16 14 (oM 1),
 U 8 17 14 (oM 2),
 U 9 18 14 (oM 3),
 U 10 19 14 (o4 146 15 16 17 18),
 I 11 20 (oO 14 19),
 M 12 8 20] false [8])
 (.ret))), false⟩
def a5b : Fn := ⟨2, 11, [(4, none)],
 (.seq (.region 1 [
 I 0 2 (.box 0 (.t 0)),
 I 1 4 (.mv (kB false))] false [1, 2])
 (.seq (.region 0 [
 M 0 5 1,
 I 1 6 (oF 0 2),
 I 2 7 (oL 6),
 I 3 8 (oN 1 7),
 I 4 9 (oK .sub 8 1),
 I 5 10 (.call true (.f 150) [.t 5, .k (.sc (.int .i64 0)), .t 9]),
 M 6 4 10] false [4])
 (.ret))), false⟩
def a6G : Fn := ⟨2, 11, [(4, none)],
 (.seq (.region 1 [
 I 0 2 (.box 0 (.t 0)),
 I 1 4 (.mv (kB false))] false [1, 2])
 (.seq (.region 0 [
 M 0 5 1,
 I 1 6 (oF 7 2),
 I 2 7 (oL 6),
 I 3 8 (oN 1 7),
 I 4 9 (oK .sub 8 1),
 I 5 10 (.call true (.f 150) [.t 5, .k (.sc (.int .i64 0)), .t 9]),
 M 6 4 10] false [4])
 (.ret))), false⟩
def a1E : AC :=
 (.seq (.region 0 [
 I 0 28 (.bin .lss (.t 27) (.t 26))] false [1, 2, 3, 4, 8, 9, 11, 15, 16, 17, 25, 26, 27, 28])
 (.seq (.cond (.t 28)
 (.skip)
 (.exit 2))
 (.seq (.block 3 (.seq (.region 0 [
 I 0 29 (oI 1 25 27),
 I 1 30 (oL 29),
 M 2 13 30] false [1, 2, 3, 4, 8, 9, 11, 13, 15, 16, 17, 25, 26, 27])
 (.region 0 [
 I 0 31 (.mv (.tk 9)),
 I 1 32 (oS 12 4),
 I 2 33 (oF 0 11),
 I 3 34 (oS 3 33),
 M 4 35 1,
 M 5 36 13,
 M 6 37 2,
 M 7 38 3,
 I 8 39 (.call true (.f 188) [.t 32, .t 34, .t 35, .t 36, .t 37, .t 38]),
 I 9 40 (.bslice 1 1 [.int .i64 0] [(0, .t 39)]),
 I 10 41 (.append 1 (.tk 31) (.t 40)),
 I 11 9 (.mv (.tk 41))] false [1, 2, 3, 4, 8, 9, 11, 15, 16, 17, 25, 26, 27])))
 (.region 0 [
 I 0 42 (oK .add 27 1),
 M 1 27 42] false [1, 2, 3, 4, 8, 9, 11, 15, 16, 17, 25, 26, 27]))))
def a6L : AC := .loop [1, 2, 3, 4, 8, 9, 11, 15, 16, 17, 25, 26, 27] a1E
def a1D : AC :=
 (.seq (.region 0 [
 I 0 18 (.bin .lss (.t 17) (.t 16))] false [1, 2, 3, 4, 8, 9, 15, 16, 17, 18])
 (.seq (.cond (.t 18)
 (.skip)
 (.exit 0))
 (.seq (.block 1 (.seq (.region 1 [
 I 0 19 (oI 4 15 17),
 I 1 20 (oS 4 19),
 I 2 11 (.alloc 0 [.int .i64 0, .int .i64 0, .int .i64 0, .sl .nil 1 []]),
 J 3 (.store 4 (.t 11) (.t 20))] false [1, 2, 3, 4, 8, 9, 11, 15, 16, 17])
 (.seq (.region 0 [
 I 0 21 (oF 3 11),
 I 1 22 (oL 21),
 M 2 23 1,
 I 3 24 (oI 1 22 23),
 I 4 25 (oL 24),
 I 5 26 (oN 1 25),
 I 6 27 (.mv (kI 0))] false [1, 2, 3, 4, 8, 9, 11, 15, 16, 17, 25, 26, 27])
 (.block 2 (a6L)))))
 (.region 0 [
 I 0 43 (oK .add 17 1),
 M 1 17 43] false [1, 2, 3, 4, 8, 9, 15, 16, 17]))))
def a6K : AC := .loop [1, 2, 3, 4, 8, 9, 15, 16, 17] a1D
def a4H : Fn := ⟨4, 52, [(8, some (some 2))],
 (.seq (.region 2 [
 I 0 4 (.box 0 (.t 0)),
 I 1 8 (.alloc 1 [.int .i64 0, .int .i64 0])] false [1, 2, 3, 4, 8])
 (.seq (.region 0 [
 I 0 9 (.mv (.k (.sc (.sl .nil 1 []))))] false [1, 2, 3, 4, 8, 9])
 (.seq (.seq (.region 0 [
 I 0 14 (oF 11 4),
 I 1 15 (oL 14),
 I 2 16 (oN 1 15),
 I 3 17 (.mv (kI 0))] false [1, 2, 3, 4, 8, 9, 15, 16, 17])
 (.block 0 (a6K)))
 (.seq (.region 0 [
 M 0 44 9,
 I 1 45 (.iaddr 1 (.t 44) (kI 0)),
 I 2 46 (oL 45),
 M 3 47 9,
 I 4 48 (o2 169 46 47),
 M 5 49 9,
 I 6 50 (o1 189 49),
 I 7 51 (.build [.int .i64 0, .int .i64 0] [(0, 1, .t 48), (1, 1, .t 50)]),
 J 8 (.store 2 (.t 8) (.t 51))] false [8])
 (.ret))))), false⟩
def a3U : Fn := ⟨4, 16, [(8, none)],
 (.seq (.region 1 [
 I 0 4 (.box 0 (.t 0)),
 I 1 8 (.mv (kB false))] false [1, 2, 3, 4])
 (.seq (.region 0 [
 I 0 9 (oS 12 4),
 M 1 10 1,
 M 2 11 2,
 M 3 12 3,
 I 4 13 (o4 167 9 10 11 12),
 I 5 14 (.field 0 none (.t 13)),
 I 6 15 (oK .lss 14 0),
 M 7 8 15] false [8])
 (.ret))), false⟩
def a0x : AC :=
 (.seq (.region 0 [
 I 0 10 (.bin .lss (.t 9) (.t 8))] false [1, 2, 7, 8, 9, 10])
 (.seq (.cond (.t 10)
 (.skip)
 (.exit 0))
 (.seq (.block 1 (.seq (.region 1 [
 M 0 11 9,
 I 1 12 (oI 2 7 9),
 I 2 13 (oS 2 12),
 I 3 6 (.alloc 0 [.int .i64 0, .int .i64 0]),
 M 4 5 11,
 J 5 (.store 2 (.t 6) (.t 13))] false [1, 2, 5, 6, 7, 8, 9])
 (.seq (.region 0 [
 I 0 14 (oS 10 2),
 I 1 15 (oF 0 6),
 I 2 16 (oL 15),
 I 3 17 (o2 152 14 16),
 I 4 18 (oU .not 17),
 M 5 19 18,
 U 6 20 19 (oF 0 6),
 U 7 21 19 (oL 20),
 U 8 22 19 (oS 10 2),
 U 9 23 19 (o1 112 22),
 U 10 24 19 (oB .lss 21 23),
 I 11 25 (oO 19 24),
 M 12 26 25,
 U 13 27 26 (oS 10 2),
 U 14 28 26 (oF 1 6),
 U 15 29 26 (oL 28),
 U 16 30 26 (o2 153 27 29),
 U 17 31 26 (oU .not 30),
 I 18 32 (oO 26 31),
 M 19 33 32,
 U 20 34 33 (oF 8 2),
 U 21 35 33 (oL 34),
 U 22 36 33 (oS 2 6),
 U 23 37 33 (o2 155 35 36),
 I 24 38 (oO 33 37),
 M 25 39 38,
 U 26 40 39 (oM 5),
 U 27 41 39 (oK .gtr 40 0),
 U 28 42 39 (oM 41),
 Y 29 43 42 (oM 1),
 Y 30 44 42 (oM 5),
 Y 31 45 42 (oK .sub 44 1),
 Y 32 46 42 (oI 2 43 45),
 Y 33 47 42 (oS 2 46),
 Y 34 48 42 (oS 2 6),
 Y 35 49 42 (o2 131 47 48),
 Y 36 50 42 (oK .geq 49 0),
 U 37 51 39 (oA 42 50),
 I 38 52 (.pick (.t 39) (kB true) (.t 51))] true [1, 2, 7, 8, 9, 52])
 (.cond (.t 52)
 (.seq (.region 0 [
 I 0 4 (.mv (kB false))] false [4])
 (.ret))
 (.skip)))))
 (.region 0 [
 I 0 53 (oK .add 9 1),
 M 1 9 53] false [1, 2, 7, 8, 9]))))
def b1m : AC := .loop [1, 2, 7, 8, 9] a0x
def a5M : Fn := ⟨2, 54, [(4, none)],
 (.seq (.region 1 [
 I 0 2 (.box 0 (.t 0)),
 I 1 4 (.mv (kB false))] false [1, 2])
 (.seq (.seq (.region 0 [
 M 0 7 1,
 I 1 8 (oN 1 7),
 I 2 9 (.mv (kI 0))] false [1, 2, 7, 8, 9])
 (.block 0 (b1m)))
 (.seq (.region 0 [
 I 0 4 (.mv (kB true))] false [4])
 (.ret)))), false⟩
def a1s : AC :=
 (.seq (.region 0 [
 I 0 22 (.bin .lss (.t 21) (.t 20))] false [5, 19, 20, 21, 22])
 (.seq (.cond (.t 22)
 (.skip)
 (.exit 2))
 (.seq (.block 3 (.seq (.region 1 [
 I 0 23 (oI 2 19 21),
 I 1 24 (oS 2 23),
 I 2 8 (.alloc 0 [.int .i64 0, .int .i64 0]),
 J 3 (.store 2 (.t 8) (.t 24))] false [5, 8, 19, 20, 21])
 (.seq (.region 1 [
 I 0 25 (oF 0 8),
 I 1 26 (oL 25),
 I 2 27 (oF 1 8),
 I 3 28 (oL 27),
 I 4 29 (.build [.int .i64 0, .int .i64 0] [(0, 1, .t 26), (1, 1, .t 28)]),
 I 5 9 (.alloc 0 [.int .i64 0, .int .i64 0]),
 J 6 (.store 2 (.t 9) (.t 29))] false [5, 9, 19, 20, 21])
 (.seq (.region 0 [
 I 0 30 (oS 2 9),
 I 1 31 (.load (some 2) (.g 3)),
 I 2 32 (.eqf true ⟨true, [1, 1]⟩ (.t 30) (.t 31))] false [5, 9, 19, 20, 21, 32])
 (.cond (.t 32)
 (.region 0 [
 M 0 33 5,
 I 1 34 (oS 2 9),
 J 2 (.sadd 2 (.t 33) (.t 34))] false [5, 19, 20, 21])
 (.skip))))))
 (.region 0 [
 I 0 35 (oK .add 21 1),
 M 1 21 35] false [5, 19, 20, 21]))))
def a6H : AC := .loop [5, 19, 20, 21] a1s
def a4h : Fn := ⟨2, 37, [(4, none)],
 (.seq (.region 0 [
 I 0 4 (.mv (.k (.sc (.imap true false []))))] false [0, 1])
 (.seq (.region 1 [
 I 0 10 (.mkset 0 2),
 M 1 5 10] false [0, 1, 5])
 (.seq (.seq (.region 1 [
 M 0 11 0,
 I 1 12 (.rng 0 (.t 11))] false [1, 5, 12])
 (.union [1, 5] 12 5 2))
 (.seq (.seq (.region 0 [
 M 0 19 1,
 I 1 20 (oN 1 19),
 I 2 21 (.mv (kI 0))] false [5, 19, 20, 21])
 (.block 2 (a6H)))
 (.seq (.region 0 [
 M 0 36 5,
 M 1 4 36] false [4])
 (.ret)))))), false⟩
def a3E : AC :=
 (.seq (.seq (.region 0 [
 M 0 11 7,
 I 1 12 (oF 0 3),
 I 2 13 (oF 7 12),
 I 3 14 (oL 13),
 I 4 15 (oN 1 14),
 I 5 16 (.bin .lss (.t 11) (.t 15))] false [1, 2, 3, 7, 16])
 (.cond (.t 16)
 (.skip)
 (.exit 0)))
 (.seq (.block 1 (.seq (.region 0 [
 I 0 19 (oS 12 3),
 M 1 20 1,
 M 2 21 7,
 M 3 22 2,
 I 4 23 (.call true (.f 113) [.t 19, .t 20, .t 21, .t 22])] false [1, 2, 3, 7, 23])
 (.cond (.t 23)
 (.seq (.region 0 [
 I 0 6 (.mv (kB false))] false [6])
 (.ret))
 (.skip))))
 (.region 0 [
 M 0 17 7,
 I 1 18 (oK .add 17 1),
 M 2 7 18] false [1, 2, 3, 7])))
def a9K : AC := .loop [1, 2, 3, 7] a3E
def a4I : Fn := ⟨3, 24, [(6, none)],
 (.seq (.region 1 [
 I 0 3 (.box 0 (.t 0)),
 I 1 6 (.mv (kB false))] false [1, 2, 3])
 (.seq (.seq (.region 0 [
 I 0 8 (oF 0 3),
 I 1 9 (oS 10 8),
 I 2 10 (o1 112 9),
 M 3 7 10] false [1, 2, 3, 7])
 (.block 0 (a9K)))
 (.seq (.region 0 [
 I 0 6 (.mv (kB true))] false [6])
 (.ret)))), false⟩
def a3g : AC :=
 (.seq (.region 0 [
 I 0 24 (.bin .lss (.t 23) (.t 22))] false [1, 2, 5, 6, 22, 23, 24])
 (.seq (.cond (.t 24)
 (.skip)
 (.exit 2))
 (.seq (.block 3 (.seq (.region 0 [
 M 0 25 23,
 M 1 7 25] false [1, 2, 5, 6, 7, 22, 23])
 (.seq (.region 0 [
 M 0 26 1,
 M 1 27 5,
 M 2 28 7,
 I 3 29 (.build [.int .i64 0, .int .i64 0] [(0, 1, .t 27), (1, 1, .t 28)]),
 I 4 30 (.slook 2 (.t 26) (.t 29)),
 I 5 31 (.un .not (.t 30))] false [1, 2, 5, 6, 22, 23, 31])
 (.cond (.t 31)
 (.region 0 [
 M 0 32 6,
 I 1 33 (oK .add 32 1),
 M 2 6 33] false [1, 2, 5, 6, 22, 23])
 (.skip)))))
 (.region 0 [
 I 0 34 (oK .add 23 1),
 M 1 23 34] false [1, 2, 5, 6, 22, 23]))))
def a6e : AC := .loop [1, 2, 5, 6, 22, 23] a3g
def a1k : AC :=
 (.seq (.seq (.region 0 [
 M 0 11 5,
 I 1 12 (oF 0 2),
 I 2 13 (oF 7 12),
 I 3 14 (oL 13),
 I 4 15 (oN 1 14),
 I 5 16 (.bin .lss (.t 11) (.t 15))] false [1, 2, 5, 16])
 (.cond (.t 16)
 (.skip)
 (.exit 0)))
 (.seq (.block 1 (.seq (.region 0 [
 I 0 6 (.mv (kI 0))] false [1, 2, 5, 6])
 (.seq (.seq (.region 0 [
 I 0 19 (oF 0 2),
 I 1 20 (oF 0 19),
 I 2 21 (oL 20),
 I 3 22 (oN 1 21),
 I 4 23 (.mv (kI 0))] false [1, 2, 5, 6, 22, 23])
 (.block 2 (a6e)))
 (.seq (.region 0 [
 M 0 35 6,
 I 1 36 (oF 0 2),
 I 2 37 (oF 7 36),
 I 3 38 (oL 37),
 M 4 39 5,
 I 5 40 (oI 3 38 39),
 I 6 41 (oF 2 40),
 I 7 42 (oL 41),
 I 8 43 (.bin .lss (.t 35) (.t 42))] false [1, 2, 5, 43])
 (.cond (.t 43)
 (.seq (.region 0 [
 I 0 4 (.mv (kB false))] false [4])
 (.ret))
 (.skip))))))
 (.region 0 [
 M 0 17 5,
 I 1 18 (oK .add 17 1),
 M 2 5 18] false [1, 2, 5])))
def a9c : AC := .loop [1, 2, 5] a1k
def a2j : Fn := ⟨2, 44, [(4, none)],
 (.seq (.region 1 [
 I 0 2 (.box 0 (.t 0)),
 I 1 4 (.mv (kB false))] false [1, 2])
 (.seq (.seq (.region 0 [
 I 0 8 (oF 0 2),
 I 1 9 (oS 10 8),
 I 2 10 (o1 112 9),
 M 3 5 10] false [1, 2, 5])
 (.block 0 (a9c)))
 (.seq (.region 0 [
 I 0 4 (.mv (kB true))] false [4])
 (.ret)))), false⟩
def a5Q : Fn := ⟨3, 15, [(6, none)],
 (.seq (.region 0 [
 I 0 6 (.mv (kB false))] false [0, 1, 2])
 (.seq (.region 0 [
 M 0 7 1,
 M 1 8 0,
 I 2 9 (oB .leq 7 8),
 M 3 10 9,
 Y 4 11 10 (oM 0),
 Y 5 12 10 (oM 2),
 Y 6 13 10 (oB .leq 11 12),
 I 7 14 (oA 10 13),
 M 8 6 14] false [6])
 (.ret))), false⟩
def a5O : Fn := ⟨3, 32, [(6, none)],
 (.seq (.region 1 [
 I 0 3 (.box 0 (.t 0)),
 I 1 6 (.mv (kB false))] false [1, 2, 3])
 (.seq (.region 0 [
 I 0 7 (oF 0 3),
 I 1 8 (oL 7),
 I 2 9 (.bin .leq (kI 0) (.t 8)),
 M 3 10 9,
 Y 4 11 10 (oF 0 3),
 Y 5 12 10 (oL 11),
 Y 6 13 10 (oF 1 3),
 Y 7 14 10 (oL 13),
 Y 8 15 10 (oB .leq 12 14),
 I 9 16 (oA 10 15),
 M 10 17 16,
 Y 11 18 17 (oF 1 3),
 Y 12 19 17 (oL 18),
 Y 13 20 17 (oM 1),
 Y 14 21 17 (oB .leq 19 20),
 I 15 22 (oA 17 21),
 M 16 23 22,
 Y 17 24 23 (oF 1 3),
 Y 18 25 23 (oL 24),
 Y 19 26 23 (oF 0 3),
 Y 20 27 23 (oL 26),
 Y 21 28 23 (oB .sub 25 27),
 Y 22 29 23 (oM 2),
 Y 23 30 23 (oB .leq 28 29),
 I 24 31 (oA 23 30),
 M 25 6 31] false [6])
 (.ret))), false⟩
def d5e : Fn := ⟨2, 11, [(4, none)],
 (.seq (.region 1 [
 I 0 2 (.box 0 (.t 0)),
 I 1 4 (.mv (kB false))] false [1, 2])
 (.seq (.region 0 [
 M 0 5 1,
 I 1 6 (oF 7 2),
 I 2 7 (oL 6),
 I 3 8 (oN 1 7),
 I 4 9 (oK .sub 8 1),
 I 5 10 (.call true (.f 29) [.t 5, .k (.sc (.int .i64 0)), .t 9]),
 M 6 4 10] false [4])
 (.ret))), false⟩
def d5c : Fn := ⟨2, 11, [(4, none)],
 (.seq (.region 1 [
 I 0 2 (.box 0 (.t 0)),
 I 1 4 (.mv (kB false))] false [1, 2])
 (.seq (.region 0 [
 M 0 5 1,
 I 1 6 (oF 0 2),
 I 2 7 (oL 6),
 I 3 8 (oN 1 7),
 I 4 9 (oK .sub 8 1),
 I 5 10 (.call true (.f 29) [.t 5, .k (.sc (.int .i64 0)), .t 9]),
 M 6 4 10] false [4])
 (.ret))), false⟩
def d4Z : AC :=
 (.seq (.seq (.region 0 [
 M 0 29 14,
 M 1 30 13,
 I 2 31 (oN 1 30),
 I 3 32 (.bin .lss (.t 29) (.t 31))] false [1, 2, 3, 4, 5, 10, 11, 12, 13, 14, 32])
 (.cond (.t 32)
 (.skip)
 (.exit 2)))
 (.seq (.block 3 (.region 0 [
 I 0 35 (oS 2 11),
 I 1 36 (oS 10 5),
 M 2 37 1,
 M 3 38 12,
 I 4 39 (oI 3 37 38),
 I 5 40 (oS 3 39),
 M 6 41 2,
 M 7 42 13,
 M 8 43 14,
 I 9 44 (oI 1 42 43),
 I 10 45 (oL 44),
 M 11 46 3,
 M 12 47 4,
 I 13 48 (.call true (.f 174) [.t 36, .t 40, .t 41, .t 45, .t 46, .t 47]),
 I 14 49 (o1 30 48),
 I 15 50 (o2 75 35 49),
 J 16 (.store 2 (.t 11) (.t 50))] true [1, 2, 3, 4, 5, 10, 11, 12, 13, 14]))
 (.region 0 [
 M 0 33 14,
 I 1 34 (oK .add 33 1),
 M 2 14 34] false [1, 2, 3, 4, 5, 10, 11, 12, 13, 14])))
def d5u : AC := .loop [1, 2, 3, 4, 5, 10, 11, 12, 13, 14] d4Z
def d4Y : AC :=
 (.seq (.seq (.region 0 [
 M 0 16 12,
 M 1 17 1,
 I 2 18 (oN 1 17),
 I 3 19 (.bin .lss (.t 16) (.t 18))] false [1, 2, 3, 4, 5, 10, 11, 12, 19])
 (.cond (.t 19)
 (.skip)
 (.exit 0)))
 (.seq (.block 1 (.seq (.region 0 [
 I 0 22 (oS 10 5),
 M 1 23 1,
 M 2 24 12,
 I 3 25 (oI 3 23 24),
 I 4 26 (oS 3 25),
 M 5 27 2,
 I 6 28 (.call true (.f 173) [.t 22, .t 26, .t 27, .k (.sc (.int .i64 0))]),
 M 7 13 28] true [1, 2, 3, 4, 5, 10, 11, 12, 13])
 (.seq (.region 0 [
 I 0 14 (.mv (kI 0))] false [1, 2, 3, 4, 5, 10, 11, 12, 13, 14])
 (.block 2 (d5u)))))
 (.region 0 [
 M 0 20 12,
 I 1 21 (oK .add 20 1),
 M 2 12 21] false [1, 2, 3, 4, 5, 10, 11, 12])))
def d5t : AC := .loop [1, 2, 3, 4, 5, 10, 11, 12] d4Y
def d5g : Fn := ⟨5, 52, [(10, some (some 2))],
 (.seq (.region 2 [
 I 0 5 (.box 0 (.t 0)),
 I 1 10 (.alloc 1 [.int .i64 0, .int .i64 0])] false [1, 2, 3, 4, 5, 10])
 (.seq (.region 1 [
 I 0 15 (.build [.int .i64 0, .int .i64 0] [(0, 1, .k (.sc (.int .i64 1000))), (1, 1, .k (.sc (.int .i64 (-1000))))]),
 I 1 11 (.alloc 0 [.int .i64 0, .int .i64 0]),
 J 2 (.store 2 (.t 11) (.t 15))] false [1, 2, 3, 4, 5, 10, 11])
 (.seq (.seq (.region 0 [
 I 0 12 (.mv (kI 0))] false [1, 2, 3, 4, 5, 10, 11, 12])
 (.block 0 (d5t)))
 (.seq (.region 0 [
 I 0 51 (oS 2 11),
 J 1 (.store 2 (.t 10) (.t 51))] false [10])
 (.ret))))), false⟩
def a2q : AC :=
 (.seq (.region 0 [
 I 0 10 (.bin .lss (.t 9) (.t 8))] false [0, 7, 8, 9, 10])
 (.seq (.cond (.t 10)
 (.skip)
 (.exit 0))
 (.seq (.block 1 (.seq (.region 0 [
 I 0 11 (oI 1 7 9),
 I 1 12 (oL 11),
 M 2 6 12] false [0, 6, 7, 8, 9])
 (.region 0 [
 M 0 13 0,
 M 1 14 6,
 I 2 15 (.min (.t 13) [.t 14]),
 M 3 0 15] false [0, 7, 8, 9])))
 (.region 0 [
 I 0 16 (oK .add 9 1),
 M 1 9 16] false [0, 7, 8, 9]))))
def a6M : AC := .loop [0, 7, 8, 9] a2q
def a4J : Fn := ⟨2, 18, [(4, none)],
 (.seq (.region 0 [
 I 0 4 (.mv (kI 0))] false [0, 1])
 (.seq (.seq (.region 0 [
 M 0 7 1,
 I 1 8 (oN 1 7),
 I 2 9 (.mv (kI 0))] false [0, 7, 8, 9])
 (.block 0 (a6M)))
 (.seq (.region 0 [
 M 0 17 0,
 M 1 4 17] false [4])
 (.ret)))), false⟩
def d5j : Fn := ⟨2, 16, [(4, some (some 2))],
 (.seq (.region 3 [
 I 0 2 (.box 0 (.t 0)),
 I 1 3 (.box 1 (.t 1)),
 I 2 4 (.alloc 2 [.int .i64 0, .int .i64 0])] false [2, 3, 4])
 (.seq (.region 0 [
 I 0 5 (oF 0 2),
 I 1 6 (oL 5),
 I 2 7 (oF 0 3),
 I 3 8 (oL 7),
 I 4 9 (.min (.t 6) [.t 8]),
 I 5 10 (oF 1 2),
 I 6 11 (oL 10),
 I 7 12 (oF 1 3),
 I 8 13 (oL 12),
 I 9 14 (.max (.t 11) [.t 13]),
 I 10 15 (o2 33 9 14),
 J 11 (.store 2 (.t 4) (.t 15))] false [4])
 (.ret))), false⟩
def a3s : AC :=
 (.seq (.seq (.region 0 [
 M 0 15 6,
 I 1 16 (oF 0 2),
 I 2 17 (oF 7 16),
 I 3 18 (oL 17),
 I 4 19 (oN 1 18),
 I 5 20 (.bin .lss (.t 15) (.t 19))] false [1, 2, 5, 6, 20])
 (.cond (.t 20)
 (.skip)
 (.exit 0)))
 (.seq (.block 1 (.seq (.region 0 [
 I 0 23 (oF 10 2),
 I 1 24 (oL 23),
 M 2 25 6,
 M 3 26 1,
 I 4 27 (.build [.int .i64 0, .int .i64 0] [(0, 1, .t 25), (1, 1, .t 26)]),
 I 5 28 (.slook 2 (.t 24) (.t 27)),
 I 6 29 (.un .not (.t 28))] false [1, 2, 5, 6, 29])
 (.cond (.t 29)
 (.region 0 [
 I 0 30 (.mv (.tk 5)),
 M 1 31 6,
 M 2 32 1,
 I 3 33 (.build [.int .i64 0, .int .i64 0] [(0, 1, .t 31), (1, 1, .t 32)]),
 I 4 34 (.bslice 2 1 [.int .i64 0, .int .i64 0] [(0, .t 33)]),
 I 5 35 (.append 2 (.tk 30) (.t 34)),
 I 6 5 (.mv (.tk 35))] false [1, 2, 5, 6])
 (.skip))))
 (.region 0 [
 M 0 21 6,
 I 1 22 (oK .add 21 1),
 M 2 6 22] false [1, 2, 5, 6])))
def a6C : AC := .loop [1, 2, 5, 6] a3s
def a0T : AC :=
 (.seq (.region 0 [
 I 0 45 (.bin .lss (.t 44) (.t 43))] false [1, 2, 5, 7, 8, 9, 38, 39, 42, 43, 44, 45])
 (.seq (.cond (.t 45)
 (.skip)
 (.exit 4))
 (.seq (.block 5 (.seq (.region 1 [
 M 0 46 44,
 I 1 47 (oI 2 42 44),
 I 2 48 (oS 2 47),
 I 3 11 (.alloc 0 [.int .i64 0, .int .i64 0]),
 M 4 10 46,
 J 5 (.store 2 (.t 11) (.t 48))] false [1, 2, 5, 7, 8, 9, 10, 11, 38, 39, 42, 43, 44])
 (.seq (.region 0 [
 M 0 49 8,
 M 1 50 10,
 I 2 51 (oB .shr 49 50),
 I 3 52 (oK .and 51 1),
 I 4 53 (.bin .eql (.t 52) (kI 1))] false [1, 2, 5, 7, 8, 9, 11, 38, 39, 42, 43, 44, 53])
 (.cond (.t 53)
 (.region 0 [
 I 0 54 (.mv (.tk 9)),
 I 1 55 (oS 2 11),
 I 2 56 (.bslice 2 1 [.int .i64 0, .int .i64 0] [(0, .t 55)]),
 I 3 57 (.append 2 (.tk 54) (.t 56)),
 I 4 9 (.mv (.tk 57))] false [1, 2, 5, 7, 8, 9, 38, 39, 42, 43, 44])
 (.skip)))))
 (.region 0 [
 I 0 58 (oK .add 44 1),
 M 1 44 58] false [1, 2, 5, 7, 8, 9, 38, 39, 42, 43, 44]))))
def a6E : AC := .loop [1, 2, 5, 7, 8, 9, 38, 39, 42, 43, 44] a0T
def a3t : AC :=
 (.seq (.region 0 [
 I 0 40 (.bin .lss (.t 39) (.t 38))] false [1, 2, 5, 7, 38, 39, 40])
 (.seq (.cond (.t 40)
 (.skip)
 (.exit 2))
 (.seq (.block 3 (.seq (.region 0 [
 M 0 41 39,
 M 1 8 41] false [1, 2, 5, 7, 8, 38, 39])
 (.seq (.region 0 [
 I 0 9 (.mv (.k (.sc (.sl .nil 2 []))))] false [1, 2, 5, 7, 8, 9, 38, 39])
 (.seq (.seq (.region 0 [
 M 0 42 5,
 I 1 43 (oN 1 42),
 I 2 44 (.mv (kI 0))] false [1, 2, 5, 7, 8, 9, 38, 39, 42, 43, 44])
 (.block 4 (a6E)))
 (.seq (.region 0 [
 I 0 59 (oS 12 2),
 M 1 60 1,
 I 2 61 (oF 10 2),
 I 3 62 (oL 61),
 M 4 63 9,
 I 5 64 (o2 121 62 63),
 I 6 65 (.call true (.f 122) [.t 59, .t 60, .t 64])] true [1, 2, 5, 7, 9, 38, 39, 65])
 (.cond (.t 65)
 (.region 0 [
 I 0 66 (.mv (.tk 7)),
 M 1 67 9,
 I 2 68 (.bslice 1 1 [.sl .nil 2 []] [(0, .t 67)]),
 I 3 69 (.append 1 (.tk 66) (.t 68)),
 I 4 7 (.mv (.tk 69))] false [1, 2, 5, 7, 38, 39])
 (.skip)))))))
 (.region 0 [
 I 0 70 (oK .add 39 1),
 M 1 39 70] false [1, 2, 5, 7, 38, 39]))))
def a6D : AC := .loop [1, 2, 5, 7, 38, 39] a3t
def a4f : Fn := ⟨2, 72, [(4, none)],
 (.seq (.region 1 [
 I 0 2 (.box 0 (.t 0)),
 I 1 4 (.mv (.k (.sc (.sl .nil 1 []))))] false [1, 2])
 (.seq (.region 0 [
 I 0 5 (.mv (.k (.sc (.sl .nil 2 []))))] false [1, 2, 5])
 (.seq (.seq (.region 0 [
 I 0 12 (oF 0 2),
 I 1 13 (oS 10 12),
 I 2 14 (o1 112 13),
 M 3 6 14] false [1, 2, 5, 6])
 (.block 0 (a6C)))
 (.seq (.region 0 [
 I 0 7 (.mv (.k (.sc (.sl .nil 1 []))))] false [1, 2, 5, 7])
 (.seq (.seq (.region 0 [
 M 0 36 5,
 I 1 37 (oN 1 36),
 I 2 38 (.bin .shl (kI 1) (.t 37)),
 I 3 39 (.mv (kI 0))] false [1, 2, 5, 7, 38, 39])
 (.block 2 (a6D)))
 (.seq (.region 0 [
 M 0 71 7,
 M 1 4 71] false [4])
 (.ret))))))), false⟩
def a5L : Fn := ⟨0, 2, [(0, some (some 1))],
 (.seq (.region 1 [
 I 0 0 (.alloc 0 [.nilf])] false [0])
 (.seq (.region 0 [
 I 0 1 (.build [.nilf] [(0, 1, .f 160)]),
 J 1 (.store 1 (.t 0) (.t 1))] false [0])
 (.ret))), false⟩
def a0X : Fn := ⟨2, 14, [],
 (.seq (.region 0 [
 M 0 5 0,
 I 1 6 (oN 1 5),
 M 2 4 6] false [0, 1, 4])
 (.region 0 [
 M 0 7 0,
 M 1 8 4,
 M 2 9 4,
 I 3 10 (.conv .u64 (.t 9)),
 I 4 11 (o1 161 10),
 M 5 12 1,
 I 6 13 (.call false (.f 162) [.t 7, .k (.sc (.int .i64 0)), .t 8, .t 11, .t 12])] false [])), false⟩
def a5u : Fn := ⟨2, 17, [(4, none)],
 (.seq (.region 2 [
 I 0 2 (.box 0 (.t 0)),
 I 1 3 (.box 1 (.t 1)),
 I 2 4 (.mv (kI 0))] false [2, 3])
 (.seq (.region 0 [
 I 0 5 (oF 0 2),
 I 1 6 (oL 5),
 I 2 7 (oF 0 3),
 I 3 8 (oL 7),
 I 4 9 (o2 163 6 8),
 I 5 10 (oF 1 2),
 I 6 11 (oL 10),
 I 7 12 (oF 1 3),
 I 8 13 (oL 12),
 I 9 14 (o2 163 11 13),
 I 10 15 (.bslice 1 2 [.int .i64 0] [(0, .t 9), (1, .t 14)]),
 I 11 16 (o1 164 15),
 M 12 4 16] true [4])
 (.ret))), false⟩
def d2y : Fn := ⟨2, 18, [(4, none)],
 (.seq (.region 0 [
 I 0 4 (.mv (kB false))] false [0, 1])
 (.seq (.region 0 [
 M 0 5 1,
 I 1 6 (oK .geq 5 0),
 M 2 7 6,
 Y 3 8 7 (oM 1),
 Y 4 9 7 (oK .lss 8 62),
 I 5 10 (oA 7 9),
 M 6 11 10,
 Y 7 12 11 (oM 0),
 Y 8 13 11 (oM 1),
 Y 9 14 11 (oB .shr 12 13),
 Y 10 15 11 (oK .and 14 1),
 Y 11 16 11 (oK .eql 15 1),
 I 12 17 (oA 11 16),
 M 13 4 17] false [4])
 (.ret))), false⟩
def a1r : AC :=
 (.seq (.region 0 [
 I 0 18 (.bin .lss (.t 17) (.t 16))] false [2, 3, 4, 5, 6, 15, 16, 17, 18])
 (.seq (.cond (.t 18)
 (.skip)
 (.exit 0))
 (.seq (.block 1 (.seq (.region 1 [
 M 0 19 17,
 I 1 20 (oI 4 15 17),
 I 2 21 (oS 4 20),
 I 3 12 (.alloc 0 [.int .i64 0, .int .i64 0, .int .i64 0, .int .i64 0]),
 M 4 11 19,
 J 5 (.store 4 (.t 12) (.t 21))] false [2, 3, 4, 5, 6, 11, 12, 15, 16, 17])
 (.seq (.region 0 [
 I 0 22 (oF 0 12),
 I 1 23 (oL 22),
 M 2 24 2,
 I 3 25 (oB .eql 23 24),
 M 4 26 25,
 Y 5 27 26 (oM 4),
 Y 6 28 26 (oM 11),
 Y 7 29 26 (o2 76 27 28),
 Y 8 30 26 (oU .not 29),
 I 9 31 (oA 26 30),
 M 10 32 31,
 Y 11 33 32 (oF 2 12),
 Y 12 34 32 (oL 33),
 Y 13 35 32 (oS 12 5),
 Y 14 36 32 (oS 3 6),
 Y 15 37 32 (oM 2),
 Y 16 38 32 (oM 3),
 Y 17 39 32 (oF 1 12),
 Y 18 40 32 (oL 39),
 Y 19 41 32 (oF 10 5),
 Y 20 42 32 (oL 41),
 Y 21 43 32 (.call true (.f 188) [.t 35, .t 36, .t 37, .t 38, .t 40, .t 42]),
 Y 22 44 32 (oB .sub 34 43),
 Y 23 45 32 (oF 3 12),
 Y 24 46 32 (oL 45),
 Y 25 47 32 (oU .neg 46),
 Y 26 48 32 (oF 3 12),
 Y 27 49 32 (oL 48),
 Y 28 50 32 (o3 150 44 47 49),
 Y 29 51 32 (oU .not 50),
 I 30 52 (.pick (.t 32) (.t 51) (kB false))] true [2, 3, 4, 5, 6, 15, 16, 17, 52])
 (.cond (.t 52)
 (.seq (.region 0 [
 I 0 10 (.mv (kB false))] false [10])
 (.ret))
 (.skip)))))
 (.region 0 [
 I 0 53 (oK .add 17 1),
 M 1 17 53] false [2, 3, 4, 5, 6, 15, 16, 17]))))
def a6F : AC := .loop [2, 3, 4, 5, 6, 15, 16, 17] a1r
def a3m : Fn := ⟨5, 54, [(10, none)],
 (.seq (.region 2 [
 I 0 5 (.box 0 (.t 0)),
 I 1 6 (.box 1 (.t 1)),
 I 2 10 (.mv (kB false))] false [2, 3, 4, 5, 6])
 (.seq (.seq (.region 0 [
 I 0 13 (oF 0 5),
 I 1 14 (oF 9 13),
 I 2 15 (oL 14),
 I 3 16 (oN 1 15),
 I 4 17 (.mv (kI 0))] false [2, 3, 4, 5, 6, 15, 16, 17])
 (.block 0 (a6F)))
 (.seq (.region 0 [
 I 0 10 (.mv (kB true))] false [10])
 (.ret)))), false⟩
def a3W : Fn := ⟨1, 4, [(2, none)],
 (.seq (.region 1 [
 I 0 1 (.box 0 (.t 0)),
 I 1 2 (.mv (.k (.sc .nilf)))] false [1])
 (.frz 1 (.seq (.region 0 [
 I 0 3 (.mkf 190 [] [] [.t 1]),
 M 1 2 3] false [2])
 (.ret)))), false⟩
def d4A : AC :=
 (.seq (.seq (.region 0 [
 M 0 31 12,
 I 1 32 (oF 9 4),
 I 2 33 (oL 32),
 I 3 34 (oN 1 33),
 I 4 35 (.bin .lss (.t 31) (.t 34))] false [2, 3, 4, 5, 9, 10, 11, 12, 35])
 (.cond (.t 35)
 (.skip)
 (.exit 2)))
 (.seq (.block 3 (.seq (.region 1 [
 I 0 38 (oF 9 4),
 I 1 39 (oL 38),
 M 2 40 12,
 I 3 41 (oI 4 39 40),
 I 4 42 (oS 4 41),
 I 5 13 (.alloc 0 [.int .i64 0, .int .i64 0, .int .i64 0, .int .i64 0]),
 J 6 (.store 4 (.t 13) (.t 42))] false [2, 3, 4, 5, 9, 10, 11, 12, 13])
 (.region 0 [
 M 0 43 11,
 M 1 44 43,
 Y 2 45 44 (oM 3),
 Y 3 46 44 (oM 12),
 Y 4 47 44 (o2 65 45 46),
 Y 5 48 44 (oM 47),
 U 6 49 48 (oF 0 13),
 U 7 50 48 (oL 49),
 U 8 51 48 (oM 2),
 U 9 52 48 (oB .neq 50 51),
 Y 10 53 44 (oO 48 52),
 Y 11 54 44 (oM 53),
 U 12 55 54 (oF 2 13),
 U 13 56 54 (oL 55),
 U 14 57 54 (oS 10 4),
 U 15 58 54 (oS 3 5),
 U 16 59 54 (oM 2),
 U 17 60 54 (oM 10),
 U 18 61 54 (oF 1 13),
 U 19 62 54 (oL 61),
 U 20 63 54 (oF 8 4),
 U 21 64 54 (oL 63),
 U 22 65 54 (.call true (.f 174) [.t 57, .t 58, .t 59, .t 60, .t 62, .t 64]),
 U 23 66 54 (oB .sub 56 65),
 U 24 67 54 (oF 3 13),
 U 25 68 54 (oL 67),
 U 26 69 54 (oU .neg 68),
 U 27 70 54 (oF 3 13),
 U 28 71 54 (oL 70),
 U 29 72 54 (o3 29 66 69 71),
 Y 30 73 44 (oO 54 72),
 I 31 74 (oA 44 73),
 M 32 11 74] true [2, 3, 4, 5, 9, 10, 11, 12])))
 (.region 0 [
 M 0 36 12,
 I 1 37 (oK .add 36 1),
 M 2 12 37] false [2, 3, 4, 5, 9, 10, 11, 12])))
def d5l : AC := .loop [2, 3, 4, 5, 9, 10, 11, 12] d4A
def d4J : AC :=
 (.seq (.seq (.region 0 [
 M 0 21 10,
 I 1 22 (oF 0 4),
 I 2 23 (oL 22),
 M 3 24 2,
 I 4 25 (oI 2 23 24),
 I 5 26 (oF 1 25),
 I 6 27 (oL 26),
 I 7 28 (.bin .leq (.t 21) (.t 27))] false [2, 3, 4, 5, 9, 10, 28])
 (.cond (.t 28)
 (.skip)
 (.exit 0)))
 (.seq (.block 1 (.seq (.region 0 [
 I 0 11 (.mv (kB true))] false [2, 3, 4, 5, 9, 10, 11])
 (.seq (.seq (.region 0 [
 I 0 12 (.mv (kI 0))] false [2, 3, 4, 5, 9, 10, 11, 12])
 (.block 2 (d5l)))
 (.seq (.region 0 [
 M 0 75 11] false [2, 3, 4, 5, 9, 10, 75])
 (.cond (.t 75)
 (.region 0 [
 I 0 76 (.mv (.tk 9)),
 M 1 77 10,
 I 2 78 (.bslice 1 1 [.int .i64 0] [(0, .t 77)]),
 I 3 79 (.append 1 (.tk 76) (.t 78)),
 I 4 9 (.mv (.tk 79))] false [2, 3, 4, 5, 9, 10])
 (.skip))))))
 (.region 0 [
 M 0 29 10,
 I 1 30 (oK .add 29 1),
 M 2 10 30] false [2, 3, 4, 5, 9, 10])))
def d5k : AC := .loop [2, 3, 4, 5, 9, 10] d4J
def d5b : Fn := ⟨4, 81, [(8, none)],
 (.seq (.region 2 [
 I 0 4 (.box 0 (.t 0)),
 I 1 5 (.box 1 (.t 1)),
 I 2 8 (.mv (.k (.sc (.sl .nil 1 []))))] false [2, 3, 4, 5])
 (.seq (.region 0 [
 I 0 14 (.bslice 1 0 [.int .i64 0] []),
 M 1 9 14] false [2, 3, 4, 5, 9])
 (.seq (.seq (.region 0 [
 I 0 15 (oF 0 4),
 I 1 16 (oL 15),
 M 2 17 2,
 I 3 18 (oI 2 16 17),
 I 4 19 (oF 0 18),
 I 5 20 (oL 19),
 M 6 10 20] false [2, 3, 4, 5, 9, 10])
 (.block 0 (d5k)))
 (.seq (.region 0 [
 M 0 80 9,
 M 1 8 80] false [8])
 (.ret))))), false⟩
def a0J : AC :=
 (.seq (.seq (.region 0 [
 M 0 12 9,
 M 1 13 2,
 I 2 14 (.bin .leq (.t 12) (.t 13))] false [1, 2, 3, 4, 9, 14])
 (.cond (.t 14)
 (.skip)
 (.exit 0)))
 (.seq (.block 1 (.seq (.region 0 [
 M 0 17 9,
 I 1 18 (oK .lss 17 0),
 M 2 19 18,
 U 3 20 19 (oF 0 4),
 U 4 21 19 (oF 7 20),
 U 5 22 19 (oL 21),
 U 6 23 19 (oM 9),
 U 7 24 19 (oI 3 22 23),
 U 8 25 19 (oF 1 24),
 U 9 26 19 (oL 25),
 U 10 27 19 (oK .eql 26 0),
 I 11 28 (oO 19 27),
 M 12 29 28,
 U 13 30 29 (oM 3),
 U 14 31 29 (oM 9),
 U 15 32 29 (oM 1),
 U 16 33 29 (.build [.int .i64 0, .int .i64 0] [(0, 1, .t 31), (1, 1, .t 32)]),
 U 17 34 29 (.slook 2 (.t 30) (.t 33)),
 I 18 35 (.pick (.t 29) (kB true) (.t 34))] false [1, 2, 3, 4, 9, 35])
 (.cond (.t 35)
 (.seq (.region 0 [
 I 0 8 (.mv (kB false))] false [8])
 (.ret))
 (.skip))))
 (.region 0 [
 M 0 15 9,
 I 1 16 (oK .add 15 1),
 M 2 9 16] false [1, 2, 3, 4, 9])))
def a0K : AC := .loop [1, 2, 3, 4, 9] a0J
def a0N : Fn := ⟨4, 36, [(8, none)],
 (.seq (.region 1 [
 I 0 4 (.box 0 (.t 0)),
 I 1 8 (.mv (kB false))] false [1, 2, 3, 4])
 (.seq (.seq (.region 0 [
 M 0 10 2,
 I 1 11 (oK .sub 10 2),
 M 2 9 11] false [1, 2, 3, 4, 9])
 (.block 0 (a0K)))
 (.seq (.region 0 [
 I 0 8 (.mv (kB true))] false [8])
 (.ret)))), false⟩
def a0Z : AC :=
 (.seq (.region 0 [
 I 0 22 (.bin .lss (.t 21) (.t 20))] false [2, 3, 5, 6, 7, 13, 14, 20, 21, 22])
 (.seq (.cond (.t 22)
 (.skip)
 (.exit 0))
 (.seq (.block 1 (.seq (.region 0 [
 M 0 23 21,
 M 1 15 23] false [2, 3, 5, 6, 7, 13, 15, 20, 21])
 (.seq (.region 0 [
 I 0 16 (.mv (kI 1))] false [2, 3, 5, 6, 7, 13, 15, 16, 20, 21])
 (.seq (.seq (.region 0 [
 M 0 24 5,
 M 1 25 15,
 M 2 26 2,
 I 3 27 (.build [.int .i64 0, .int .i64 0] [(0, 1, .t 25), (1, 1, .t 26)]),
 I 4 28 (.slook 2 (.t 24) (.t 27))] false [2, 3, 5, 6, 7, 13, 15, 16, 20, 21, 28])
 (.cond (.t 28)
 (.region 0 [
 I 0 16 (.mv (kI 0))] false [2, 3, 5, 6, 7, 13, 15, 16, 20, 21])
 (.skip)))
 (.seq (.region 0 [
 M 0 29 16,
 I 1 30 (.iarr 2 1 (.g 4) (.t 29)),
 I 2 31 (oL 30),
 I 3 32 (oS 3 7),
 M 4 33 13,
 I 5 34 (oF 0 6),
 I 6 35 (oF 7 34),
 I 7 36 (oL 35),
 M 8 37 15,
 I 9 38 (oI 3 36 37),
 I 10 39 (oS 3 38),
 I 11 40 (.call true (.t 31) [.t 32, .t 33, .t 39]),
 M 12 14 40] true [2, 3, 5, 6, 7, 14, 20, 21])
 (.region 0 [
 M 0 41 3,
 M 1 42 14,
 I 2 43 (.iarr 3 1 (.t 7) (kI 2)),
 I 3 44 (oL 43),
 I 4 45 (oB .add 42 44),
 I 5 46 (.bslice 1 1 [.int .i64 0] [(0, .t 45)]),
 I 6 47 (o2 169 41 46),
 M 7 13 47] false [2, 3, 5, 6, 7, 13, 14, 20, 21]))))))
 (.region 0 [
 I 0 48 (oK .add 21 1),
 M 1 21 48] false [2, 3, 5, 6, 7, 13, 14, 20, 21]))))
def a6J : AC := .loop [2, 3, 5, 6, 7, 13, 14, 20, 21] a0Z
def a4G : Fn := ⟨6, 50, [(12, none)],
 (.seq (.region 2 [
 I 0 6 (.box 0 (.t 0)),
 I 1 7 (.box 1 (.t 1)),
 I 2 12 (.mv (kI 0))] false [2, 3, 4, 5, 6, 7])
 (.seq (.region 0 [
 M 0 17 3,
 M 1 18 3,
 M 2 13 17,
 M 3 14 18] false [2, 3, 4, 5, 6, 7, 13, 14])
 (.seq (.seq (.region 0 [
 M 0 19 4,
 I 1 20 (oK .add 19 1),
 I 2 21 (.mv (kI 0))] false [2, 3, 5, 6, 7, 13, 14, 20, 21])
 (.block 0 (a6J)))
 (.seq (.region 0 [
 M 0 49 14,
 M 1 12 49] false [12])
 (.ret))))), false⟩
def a2f : AC :=
 (.seq (.seq (.region 0 [
 M 0 12 4,
 M 1 13 0,
 I 2 14 (oN 1 13),
 I 3 15 (.bin .lss (.t 12) (.t 14))] false [0, 3, 4, 15])
 (.cond (.t 15)
 (.skip)
 (.exit 0)))
 (.seq (.block 1 (.region 0 [
 M 0 18 3,
 M 1 19 0,
 M 2 20 4,
 I 3 21 (oI 1 19 20),
 I 4 22 (oL 21),
 I 5 23 (.max (.t 18) [.t 22]),
 M 6 3 23] false [0, 3, 4]))
 (.region 0 [
 M 0 16 4,
 I 1 17 (oK .add 16 1),
 M 2 4 17] false [0, 3, 4])))
def a6d : AC := .loop [0, 3, 4] a2f
def a3S : Fn := ⟨1, 25, [(2, none)],
 (.seq (.region 0 [
 I 0 2 (.mv (kI 0))] false [0])
 (.seq (.seq (.region 0 [
 M 0 5 0,
 I 1 6 (oN 1 5),
 I 2 7 (.bin .lss (.t 6) (kI 1))] false [0, 7])
 (.cond (.t 7)
 (.stuck)
 (.skip)))
 (.seq (.region 0 [
 M 0 9 0,
 I 1 10 (.iaddr 1 (.t 9) (kI 0)),
 I 2 11 (oL 10),
 M 3 3 11] false [0, 3])
 (.seq (.seq (.region 0 [
 I 0 4 (.mv (kI 1))] false [0, 3, 4])
 (.block 0 (a6d)))
 (.seq (.region 0 [
 M 0 24 3,
 M 1 2 24] false [2])
 (.ret)))))), false⟩
def a1m : Fn := ⟨2, 9, [(4, none)],
 (.seq (.region 1 [
 I 0 3 (.box 0 (.t 1)),
 I 1 4 (.mv (kB false))] false [0, 3])
 (.seq (.region 0 [
 M 0 5 0,
 I 1 6 (oS 2 3),
 I 2 7 (o2 175 5 6),
 I 3 8 (oK .geq 7 0),
 M 4 4 8] false [4])
 (.ret))), false⟩
def d4M : AC :=
 (.seq (.seq (.region 0 [
 M 0 17 15,
 M 1 18 4,
 I 2 19 (.bin .leq (.t 17) (.t 18))] false [2, 3, 4, 5, 6, 7, 13, 14, 15, 19])
 (.cond (.t 19)
 (.skip)
 (.exit 0)))
 (.seq (.block 1 (.seq (.region 0 [
 M 0 22 13,
 M 1 14 22] false [2, 3, 4, 5, 6, 7, 13, 14, 15])
 (.seq (.seq (.region 0 [
 M 0 23 5,
 M 1 24 2,
 M 2 25 15,
 I 3 26 (o3 159 23 24 25),
 I 4 27 (.un .not (.t 26))] false [2, 3, 4, 5, 6, 7, 13, 14, 15, 27])
 (.cond (.t 27)
 (.region 0 [
 M 0 28 13,
 I 1 29 (oF 7 6),
 I 2 30 (oL 29),
 M 3 31 15,
 I 4 32 (oI 3 30 31),
 I 5 33 (oF 0 32),
 I 6 34 (oL 33),
 I 7 35 (.iarr 3 1 (.t 7) (kI 0)),
 I 8 36 (oL 35),
 I 9 37 (oB .mul 34 36),
 I 10 38 (oB .sub 28 37),
 I 11 39 (oF 7 6),
 I 12 40 (oL 39),
 M 13 41 15,
 I 14 42 (oI 3 40 41),
 I 15 43 (oF 1 42),
 I 16 44 (oL 43),
 I 17 45 (.iarr 3 1 (.t 7) (kI 1)),
 I 18 46 (oL 45),
 I 19 47 (oB .mul 44 46),
 I 20 48 (oB .sub 38 47),
 M 21 14 48] true [2, 3, 4, 5, 6, 7, 14, 15])
 (.skip)))
 (.region 0 [
 M 0 49 3,
 M 1 50 14,
 I 2 51 (.iarr 3 1 (.t 7) (kI 2)),
 I 3 52 (oL 51),
 I 4 53 (oB .add 50 52),
 I 5 54 (.min (.t 49) [.t 53]),
 M 6 13 54] false [2, 3, 4, 5, 6, 7, 13, 14, 15]))))
 (.region 0 [
 M 0 20 15,
 I 1 21 (oK .add 20 1),
 M 2 15 21] false [2, 3, 4, 5, 6, 7, 13, 14, 15])))
def d5s : AC := .loop [2, 3, 4, 5, 6, 7, 13, 14, 15] d4M
def d5f : Fn := ⟨6, 56, [(12, none)],
 (.seq (.region 2 [
 I 0 6 (.box 0 (.t 0)),
 I 1 7 (.box 1 (.t 1)),
 I 2 12 (.mv (kI 0))] false [2, 3, 4, 5, 6, 7])
 (.seq (.region 0 [
 M 0 16 3,
 M 1 13 16,
 I 2 14 (.mv (kI 0))] false [2, 3, 4, 5, 6, 7, 13, 14])
 (.seq (.seq (.region 0 [
 I 0 15 (.mv (kI 0))] false [2, 3, 4, 5, 6, 7, 13, 14, 15])
 (.block 0 (d5s)))
 (.seq (.region 0 [
 M 0 55 14,
 M 1 12 55] false [12])
 (.ret))))), false⟩
def a5a : Fn := ⟨2, 16, [(4, none)],
 (.seq (.region 0 [
 I 0 4 (.mv (kB false))] false [0, 1])
 (.seq (.region 0 [
 M 0 5 0,
 I 1 6 (oN 1 5),
 M 2 7 1,
 I 3 8 (oN 1 7),
 I 4 9 (o2 163 6 8),
 M 5 10 0,
 M 6 11 1,
 I 7 12 (.call true (.f 176) [.t 10, .t 11, .f 131]),
 I 8 13 (.bslice 1 2 [.int .i64 0] [(0, .t 9), (1, .t 12)]),
 I 9 14 (o1 164 13),
 I 10 15 (oK .lss 14 0),
 M 11 4 15] false [4])
 (.ret))), false⟩
def a5H : AC :=
 (.seq (.region 0 [
 I 0 9 (.bin .lss (.t 8) (.t 7))] false [3, 6, 7, 8, 9])
 (.seq (.cond (.t 9)
 (.skip)
 (.exit 0))
 (.seq (.block 1 (.seq (.region 0 [
 I 0 10 (oI 1 6 8),
 I 1 11 (oL 10),
 M 2 5 11] false [3, 5, 6, 7, 8])
 (.seq (.region 0 [
 M 0 12 5,
 M 1 13 3,
 I 2 14 (.bin .neq (.t 12) (.t 13))] false [3, 5, 6, 7, 8, 14])
 (.cond (.t 14)
 (.seq (.region 0 [
 M 0 15 5,
 M 1 2 15] false [2])
 (.ret))
 (.skip)))))
 (.region 0 [
 I 0 16 (oK .add 8 1),
 M 1 8 16] false [3, 6, 7, 8]))))
def a5I : AC := .loop [3, 6, 7, 8] a5H
def a5n : Fn := ⟨1, 18, [(2, none)],
 (.seq (.region 0 [
 I 0 2 (.mv (kI 0))] false [0])
 (.seq (.region 0 [
 I 0 3 (.mv (kI 0))] false [0, 3])
 (.seq (.seq (.region 0 [
 M 0 6 0,
 I 1 7 (oN 1 6),
 I 2 8 (.mv (kI 0))] false [3, 6, 7, 8])
 (.block 0 (a5I)))
 (.seq (.region 0 [
 M 0 17 3,
 M 1 2 17] false [2])
 (.ret))))), false⟩
def cmp_Compare_int : Fn := ⟨2, 20, [(4, none)],
 (.seq (.region 0 [
 I 0 4 (.mv (kI 0))] false [0, 1])
 (.seq (.region 0 [
 M 0 7 0,
 I 1 8 (o1 177 7),
 M 2 5 8] false [0, 1, 5])
 (.seq (.region 0 [
 M 0 9 1,
 I 1 10 (o1 177 9),
 M 2 6 10] false [0, 1, 5, 6])
 (.seq (.seq (.region 0 [
 M 0 11 5] false [0, 1, 6, 11])
 (.cond (.t 11)
 (.seq (.seq (.region 0 [
 M 0 12 6] false [12])
 (.cond (.t 12)
 (.seq (.region 0 [
 I 0 4 (.mv (kI 0))] false [4])
 (.ret))
 (.skip)))
 (.seq (.region 0 [
 I 0 4 (.mv (kI (-1)))] false [4])
 (.ret)))
 (.skip)))
 (.seq (.seq (.region 0 [
 M 0 13 6] false [0, 1, 13])
 (.cond (.t 13)
 (.seq (.region 0 [
 I 0 4 (.mv (kI 1))] false [4])
 (.ret))
 (.skip)))
 (.seq (.seq (.region 0 [
 M 0 14 0,
 M 1 15 1,
 I 2 16 (.bin .lss (.t 14) (.t 15))] false [0, 1, 16])
 (.cond (.t 16)
 (.seq (.region 0 [
 I 0 4 (.mv (kI (-1)))] false [4])
 (.ret))
 (.skip)))
 (.seq (.seq (.region 0 [
 M 0 17 0,
 M 1 18 1,
 I 2 19 (.bin .gtr (.t 17) (.t 18))] false [19])
 (.cond (.t 19)
 (.seq (.region 0 [
 I 0 4 (.mv (kI 1))] false [4])
 (.ret))
 (.skip)))
 (.seq (.region 0 [
 I 0 4 (.mv (kI 0))] false [4])
 (.ret))))))))), false⟩
def a0i : AC :=
 (.seq (.region 0 [
 I 0 14 (.bin .lss (.t 13) (.t 12))] false [0, 1, 2, 11, 12, 13, 14])
 (.seq (.cond (.t 14)
 (.skip)
 (.exit 0))
 (.seq (.block 1 (.seq (.region 1 [
 M 0 15 13,
 I 1 16 (oI 2 11 13),
 I 2 17 (oS 2 16),
 I 3 8 (.alloc 0 [.int .i64 0, .int .i64 0]),
 M 4 7 15,
 J 5 (.store 2 (.t 8) (.t 17))] false [0, 1, 2, 7, 8, 11, 12, 13])
 (.seq (.seq (.region 0 [
 M 0 18 7,
 M 1 19 1,
 I 2 20 (oN 1 19),
 I 3 21 (.bin .geq (.t 18) (.t 20))] false [0, 1, 2, 7, 8, 11, 12, 13, 21])
 (.cond (.t 21)
 (.seq (.region 0 [
 I 0 6 (.mv (kI 1))] false [6])
 (.ret))
 (.skip)))
 (.seq (.region 1 [
 M 0 22 1,
 M 1 23 7,
 I 2 24 (oI 2 22 23),
 I 3 25 (oS 2 24),
 I 4 9 (.alloc 0 [.int .i64 0, .int .i64 0]),
 J 5 (.store 2 (.t 9) (.t 25))] false [0, 1, 2, 8, 9, 11, 12, 13])
 (.seq (.region 0 [
 M 0 26 2,
 I 1 27 (oS 2 8),
 I 2 28 (oS 2 9),
 I 3 29 (.call true (.t 26) [.t 27, .t 28]),
 M 4 10 29] false [0, 1, 2, 10, 11, 12, 13])
 (.seq (.region 0 [
 M 0 30 10,
 I 1 31 (.bin .neq (.t 30) (kI 0))] false [0, 1, 2, 10, 11, 12, 13, 31])
 (.cond (.t 31)
 (.seq (.region 0 [
 M 0 32 10,
 M 1 6 32] false [6])
 (.ret))
 (.skip))))))))
 (.region 0 [
 I 0 33 (oK .add 13 1),
 M 1 13 33] false [0, 1, 2, 11, 12, 13]))))
def a1V : AC := .loop [0, 1, 2, 11, 12, 13] a0i
def a0D : Fn := ⟨3, 39, [(6, none)],
 (.seq (.region 0 [
 I 0 6 (.mv (kI 0))] false [0, 1, 2])
 (.seq (.seq (.region 0 [
 M 0 11 0,
 I 1 12 (oN 1 11),
 I 2 13 (.mv (kI 0))] false [0, 1, 2, 11, 12, 13])
 (.block 0 (a1V)))
 (.seq (.seq (.region 0 [
 M 0 34 0,
 I 1 35 (oN 1 34),
 M 2 36 1,
 I 3 37 (oN 1 36),
 I 4 38 (.bin .lss (.t 35) (.t 37))] false [38])
 (.cond (.t 38)
 (.seq (.region 0 [
 I 0 6 (.mv (kI (-1)))] false [6])
 (.ret))
 (.skip)))
 (.seq (.region 0 [
 I 0 6 (.mv (kI 0))] false [6])
 (.ret))))), false⟩
def a1X : AC :=
 (.block 1 (.seq (.region 0 [
 M 0 21 2,
 M 1 22 1,
 I 2 23 (oB .sub 21 22),
 M 3 12 23] false [0, 1, 2, 3, 4, 10, 11, 12])
 (.seq (.seq (.region 0 [
 M 0 24 12,
 I 1 25 (.bin .leq (.t 24) (kI 12))] false [0, 1, 2, 3, 4, 10, 11, 12, 25])
 (.cond (.t 25)
 (.seq (.region 0 [
 M 0 26 0,
 M 1 27 1,
 M 2 28 2,
 M 3 29 4,
 I 4 30 (.call false (.f 178) [.t 26, .t 27, .t 28, .t 29])] false [])
 (.ret))
 (.skip)))
 (.seq (.seq (.region 0 [
 M 0 31 3,
 I 1 32 (.bin .eql (.t 31) (kI 0))] false [0, 1, 2, 3, 4, 10, 11, 12, 32])
 (.cond (.t 32)
 (.seq (.region 0 [
 M 0 33 0,
 M 1 34 1,
 M 2 35 2,
 M 3 36 4,
 I 4 37 (.call false (.f 179) [.t 33, .t 34, .t 35, .t 36])] false [])
 (.ret))
 (.skip)))
 (.seq (.seq (.region 0 [
 M 0 38 10,
 I 1 39 (.un .not (.t 38))] false [0, 1, 2, 3, 4, 10, 11, 12, 39])
 (.cond (.t 39)
 (.seq (.region 0 [
 M 0 40 0,
 M 1 41 1,
 M 2 42 2,
 M 3 43 4,
 I 4 44 (.call false (.f 180) [.t 40, .t 41, .t 42, .t 43])] false [0, 1, 2, 3, 4, 10, 11, 12])
 (.region 0 [
 M 0 45 3,
 I 1 46 (oK .sub 45 1),
 M 2 3 46] false [0, 1, 2, 3, 4, 10, 11, 12]))
 (.skip)))
 (.seq (.region 0 [
 M 0 48 0,
 M 1 49 1,
 M 2 50 2,
 M 3 51 4,
 I 4 52 (.call false (.f 181) [.t 48, .t 49, .t 50, .t 51]),
 M 5 47 52,
 I 6 53 (oE 47 0),
 I 7 54 (oE 47 1),
 M 8 13 53,
 M 9 14 54] false [0, 1, 2, 3, 4, 10, 11, 12, 13, 14])
 (.seq (.seq (.region 0 [
 M 0 55 14,
 I 1 56 (.bin .eql (.t 55) (kI 2))] false [0, 1, 2, 3, 4, 10, 11, 12, 13, 14, 56])
 (.cond (.t 56)
 (.seq (.region 0 [
 M 0 57 0,
 M 1 58 1,
 M 2 59 2,
 M 3 60 4,
 I 4 61 (.call false (.f 182) [.t 57, .t 58, .t 59, .t 60])] false [0, 1, 2, 3, 4, 10, 11, 12, 13])
 (.seq (.region 0 [
 M 0 62 2,
 I 1 63 (oK .sub 62 1),
 M 2 64 13,
 M 3 65 1,
 I 4 66 (oB .sub 64 65),
 I 5 67 (oB .sub 63 66),
 M 6 13 67] false [0, 1, 2, 3, 4, 10, 11, 12, 13])
 (.region 0 [
 I 0 14 (.mv (kI 1))] false [0, 1, 2, 3, 4, 10, 11, 12, 13, 14])))
 (.skip)))
 (.seq (.seq (.region 0 [
 M 0 68 10,
 M 1 69 68,
 Y 2 70 69 (oM 11),
 I 3 71 (oA 69 70),
 M 4 72 71,
 Y 5 73 72 (oM 14),
 Y 6 74 72 (oK .eql 73 1),
 I 7 75 (.pick (.t 72) (.t 74) (kB false))] false [0, 1, 2, 3, 4, 10, 11, 12, 13, 75])
 (.cond (.t 75)
 (.seq (.region 0 [
 M 0 76 0,
 M 1 77 1,
 M 2 78 2,
 M 3 79 4,
 I 4 80 (.call false (.f 183) [.t 76, .t 77, .t 78, .t 79])] false [0, 1, 2, 3, 4, 10, 11, 12, 13, 80])
 (.cond (.t 80)
 (.ret)
 (.skip)))
 (.skip)))
 (.seq (.seq (.region 0 [
 M 0 81 1,
 I 1 82 (oK .gtr 81 0),
 M 2 83 82,
 Y 3 84 83 (oM 4),
 Y 4 85 83 (oM 0),
 Y 5 86 83 (oM 1),
 Y 6 87 83 (oK .sub 86 1),
 Y 7 88 83 (oI 2 85 87),
 Y 8 89 83 (oS 2 88),
 Y 9 90 83 (oM 0),
 Y 10 91 83 (oM 13),
 Y 11 92 83 (oI 2 90 91),
 Y 12 93 83 (oS 2 92),
 Y 13 94 83 (.call true (.t 84) [.t 89, .t 93]),
 Y 14 95 83 (oK .lss 94 0),
 Y 15 96 83 (oU .not 95),
 I 16 97 (.pick (.t 83) (.t 96) (kB false))] true [0, 1, 2, 3, 4, 10, 11, 12, 13, 97])
 (.cond (.t 97)
 (.seq (.region 0 [
 M 0 98 0,
 M 1 99 1,
 M 2 100 2,
 M 3 101 13,
 M 4 102 4,
 I 5 103 (.call false (.f 184) [.t 98, .t 99, .t 100, .t 101, .t 102]),
 M 6 15 103] false [0, 2, 3, 4, 10, 11, 15])
 (.seq (.region 0 [
 M 0 104 15,
 M 1 1 104] false [0, 1, 2, 3, 4, 10, 11])
 (.exit 1)))
 (.skip)))
 (.seq (.region 0 [
 M 0 106 0,
 M 1 107 1,
 M 2 108 2,
 M 3 109 13,
 M 4 110 4,
 I 5 111 (.call false (.f 185) [.t 106, .t 107, .t 108, .t 109, .t 110]),
 M 6 105 111,
 I 7 112 (oE 105 0),
 I 8 113 (oE 105 1),
 M 9 16 112,
 M 10 17 113] false [0, 1, 2, 3, 4, 12, 16, 17])
 (.seq (.region 0 [
 M 0 114 17,
 M 1 11 114] false [0, 1, 2, 3, 4, 11, 12, 16])
 (.seq (.region 0 [
 M 0 115 16,
 M 1 116 1,
 I 2 117 (oB .sub 115 116),
 M 3 118 2,
 M 4 119 16,
 I 5 120 (oB .sub 118 119),
 M 6 18 117,
 M 7 19 120] false [0, 1, 2, 3, 4, 11, 12, 16, 18, 19])
 (.seq (.region 0 [
 M 0 121 12,
 I 1 122 (oK .quo 121 8),
 M 2 20 122] false [0, 1, 2, 3, 4, 11, 16, 18, 19, 20])
 (.seq (.region 0 [
 M 0 123 18,
 M 1 124 19,
 I 2 125 (.bin .lss (.t 123) (.t 124))] false [0, 1, 2, 3, 4, 11, 16, 18, 19, 20, 125])
 (.cond (.t 125)
 (.seq (.region 0 [
 M 0 126 18,
 M 1 127 20,
 I 2 128 (oB .geq 126 127),
 M 3 10 128] false [0, 1, 2, 3, 4, 10, 11, 16])
 (.seq (.region 0 [
 M 0 129 0,
 M 1 130 1,
 M 2 131 16,
 M 3 132 3,
 M 4 133 4,
 I 5 134 (.call false (.f 162) [.t 129, .t 130, .t 131, .t 132, .t 133])] false [0, 2, 3, 4, 10, 11, 16])
 (.region 0 [
 M 0 135 16,
 I 1 136 (oK .add 135 1),
 M 2 1 136] false [0, 1, 2, 3, 4, 10, 11])))
 (.seq (.region 0 [
 M 0 137 19,
 M 1 138 20,
 I 2 139 (oB .geq 137 138),
 M 3 10 139] false [0, 1, 2, 3, 4, 10, 11, 16])
 (.seq (.region 0 [
 M 0 140 0,
 M 1 141 16,
 I 2 142 (oK .add 141 1),
 M 3 143 2,
 M 4 144 3,
 M 5 145 4,
 I 6 146 (.call false (.f 162) [.t 140, .t 142, .t 143, .t 144, .t 145])] false [0, 1, 3, 4, 10, 11, 16])
 (.region 0 [
 M 0 147 16,
 M 1 2 147] false [0, 1, 2, 3, 4, 10, 11]))))))))))))))))))
def a1Y : AC := .loop [0, 1, 2, 3, 4, 10, 11] a1X
def a1v : Fn := ⟨5, 148, [],
 (.seq (.region 0 [
 I 0 10 (.mv (kB true))] false [0, 1, 2, 3, 4, 10])
 (.seq (.region 0 [
 I 0 11 (.mv (kB true))] false [0, 1, 2, 3, 4, 10, 11])
 (.block 0 (a1Y)))), false⟩
def a5J : Fn := ⟨1, 8, [(2, none)],
 (.seq (.region 0 [
 I 0 2 (.mv (kI 0))] false [0])
 (.seq (.cond (.k (.sc (.bool false)))
 (.seq (.region 0 [
 M 0 3 0,
 I 1 4 (.conv .u32 (.t 3)),
 I 2 5 (o1 186 4),
 M 3 2 5] false [2])
 (.ret))
 (.skip))
 (.seq (.region 0 [
 M 0 6 0,
 I 1 7 (o1 187 6),
 M 2 2 7] false [2])
 (.ret)))), false⟩
def a2Q : Fn := ⟨2, 9, [(4, none)],
 (.seq (.region 0 [
 I 0 4 (.mv (kB false))] false [0, 1])
 (.seq (.region 0 [
 M 0 5 0,
 M 1 6 1,
 I 2 7 (o2 83 5 6),
 I 3 8 (oK .geq 7 0),
 M 4 4 8] false [4])
 (.ret))), false⟩
def a3u : Fn := ⟨2, 8, [],
 (.seq (.region 1 [
 I 0 2 (.box 0 (.t 0))] false [1, 2])
 (.seq (.region 1 [
 I 0 3 (.alloc 0 [.nilf])] false [1, 2, 3])
 (.seq (.region 0 [
 I 0 4 (.mkf 196 [] [] [.t 2, .t 1, .t 3]),
 J 1 (.store 1 (.t 3) (.t 4))] false [3])
 (.region 0 [
 I 0 5 (oL 3),
 I 1 6 (.call true (.f 197) []),
 I 2 7 (.call false (.t 5) [.t 6, .k (.sc (.int .i64 0))])] true [])))), false⟩
def a0u : AC :=
 (.seq (.region 0 [
 I 0 27 (.bin .lss (.t 26) (.t 25))] false [1, 4, 5, 8, 25, 26, 27])
 (.seq (.cond (.t 27)
 (.skip)
 (.exit 0))
 (.seq (.block 1 (.seq (.region 0 [
 M 0 28 26,
 M 1 9 28] false [1, 4, 5, 8, 9, 25, 26])
 (.seq (.region 0 [
 M 0 29 1,
 I 1 30 (oF 0 8),
 I 2 31 (oL 30),
 M 3 32 9,
 I 4 33 (oB .add 31 32),
 I 5 34 (.iarr 3 1 (.t 5) (.t 29)),
 J 6 (.store 1 (.t 34) (.t 33))] false [1, 4, 5, 8, 25, 26])
 (.seq (.region 0 [
 I 0 35 (oL 4),
 I 1 36 (oS 3 5),
 M 2 37 1,
 I 3 38 (oK .add 37 1),
 I 4 39 (.call false (.t 35) [.t 36, .t 38]),
 I 5 40 (.un .not (.t 39))] false [1, 4, 5, 8, 25, 26, 40])
 (.cond (.t 40)
 (.seq (.region 0 [
 I 0 7 (.mv (kB false))] false [7])
 (.ret))
 (.skip))))))
 (.region 0 [
 I 0 41 (oK .add 26 1),
 M 1 26 41] false [1, 4, 5, 8, 25, 26]))))
def a7A : AC := .loop [1, 4, 5, 8, 25, 26] a0u
def a1O : Fn := ⟨5, 42, [(7, none)],
 (.seq (.region 1 [
 I 0 5 (.box 0 (.t 0)),
 I 1 7 (.mv (kB false))] false [1, 2, 3, 4, 5])
 (.seq (.seq (.region 0 [
 M 0 10 1,
 I 1 11 (.bin .eql (.t 10) (kI 3))] false [1, 2, 3, 4, 5, 11])
 (.cond (.t 11)
 (.seq (.region 0 [
 I 0 12 (oL 2),
 I 1 13 (oS 3 5),
 I 2 14 (.call false (.t 12) [.t 13]),
 M 3 7 14] false [7])
 (.ret))
 (.skip)))
 (.seq (.region 1 [
 M 0 15 1,
 I 1 16 (oF 0 3),
 I 2 17 (oF 1 16),
 I 3 18 (.iarr 3 2 (.t 17) (.t 15)),
 I 4 19 (oS 2 18),
 I 5 8 (.alloc 0 [.int .i64 0, .int .i64 0]),
 J 6 (.store 2 (.t 8) (.t 19))] false [1, 4, 5, 8])
 (.seq (.seq (.region 0 [
 I 0 20 (oF 1 8),
 I 1 21 (oL 20),
 I 2 22 (oF 0 8),
 I 3 23 (oL 22),
 I 4 24 (oB .sub 21 23),
 I 5 25 (oK .add 24 1),
 I 6 26 (.mv (kI 0))] false [1, 4, 5, 8, 25, 26])
 (.block 0 (a7A)))
 (.seq (.region 0 [
 I 0 7 (.mv (kB true))] false [7])
 (.ret)))))), false⟩
def a5v : Fn := ⟨0, 3, [(0, some (some 3))],
 (.seq (.region 1 [
 I 0 0 (.alloc 0 [.int .i64 0, .int .i64 0, .int .i64 0])] false [0])
 (.seq (.region 1 [
 I 0 1 (.alloc 0 [.int .i64 0, .int .i64 0, .int .i64 0])] false [0, 1])
 (.seq (.region 0 [
 I 0 2 (oS 3 1),
 J 1 (.store 3 (.t 0) (.t 2))] false [0])
 (.ret)))), false⟩
def a0y : AC :=
 (.seq (.region 0 [
 I 0 9 (.bin .lss (.t 8) (.t 7))] false [0, 3, 7, 8, 9])
 (.seq (.cond (.t 9)
 (.skip)
 (.exit 0))
 (.seq (.block 1 (.seq (.region 0 [
 M 0 10 8,
 M 1 5 10] false [0, 3, 5, 7, 8])
 (.seq (.region 0 [
 I 0 11 (oS 2 3),
 M 1 12 0,
 M 2 13 5,
 I 3 14 (oI 2 12 13),
 I 4 15 (oS 2 14),
 I 5 16 (.eqf false ⟨true, [1, 1]⟩ (.t 11) (.t 15))] true [0, 3, 5, 7, 8, 16])
 (.cond (.t 16)
 (.seq (.region 0 [
 M 0 17 5,
 M 1 4 17] false [4])
 (.ret))
 (.skip)))))
 (.region 0 [
 I 0 18 (oK .add 8 1),
 M 1 8 18] false [0, 3, 7, 8]))))
def a3R : AC := .loop [0, 3, 7, 8] a0y
def a1x : Fn := ⟨2, 19, [(4, none)],
 (.seq (.region 1 [
 I 0 3 (.box 0 (.t 1)),
 I 1 4 (.mv (kI 0))] false [0, 3])
 (.seq (.seq (.region 0 [
 M 0 6 0,
 I 1 7 (oN 1 6),
 I 2 8 (.mv (kI 0))] false [0, 3, 7, 8])
 (.block 0 (a3R)))
 (.seq (.region 0 [
 I 0 4 (.mv (kI (-1)))] false [4])
 (.ret)))), false⟩
def d4O : AC :=
 (.seq (.seq (.region 0 [
 M 0 8 7,
 M 1 9 0,
 I 2 10 (oN 1 9),
 I 3 11 (.bin .lss (.t 8) (.t 10))] false [0, 1, 2, 7, 11])
 (.cond (.t 11)
 (.skip)
 (.exit 0)))
 (.seq (.block 1 (.seq (.region 0 [
 M 0 14 0,
 M 1 15 7,
 I 2 16 (oI 2 14 15),
 I 3 17 (oS 2 16),
 M 4 18 2,
 M 5 19 1,
 I 6 20 (.build [.int .i64 0, .int .i64 0] [(0, 1, .t 18), (1, 1, .t 19)]),
 I 7 21 (.eqf false ⟨true, [1, 1]⟩ (.t 17) (.t 20))] false [0, 1, 2, 7, 21])
 (.cond (.t 21)
 (.seq (.region 0 [
 I 0 6 (.mv (kB true))] false [6])
 (.ret))
 (.skip))))
 (.region 0 [
 M 0 12 7,
 I 1 13 (oK .add 12 1),
 M 2 7 13] false [0, 1, 2, 7])))
def d5m : AC := .loop [0, 1, 2, 7] d4O
def d5h : Fn := ⟨3, 22, [(6, none)],
 (.seq (.region 0 [
 I 0 6 (.mv (kB false))] false [0, 1, 2])
 (.seq (.seq (.region 0 [
 I 0 7 (.mv (kI 0))] false [0, 1, 2, 7])
 (.block 0 (d5m)))
 (.seq (.region 0 [
 I 0 6 (.mv (kB false))] false [6])
 (.ret)))), false⟩
def cmp_isNaN_int : Fn := ⟨1, 6, [(2, none)],
 (.seq (.region 0 [
 I 0 2 (.mv (kB false))] false [0])
 (.seq (.region 0 [
 M 0 3 0,
 M 1 4 0,
 I 2 5 (oB .neq 3 4),
 M 3 2 5] false [2])
 (.ret))), false⟩
def a0B : AC :=
 (.seq (.seq (.region 0 [
 M 0 18 9,
 M 1 19 1,
 I 2 20 (oB .gtr 18 19),
 M 3 21 20,
 Y 4 22 21 (oM 3),
 Y 5 23 21 (oM 0),
 Y 6 24 21 (oM 9),
 Y 7 25 21 (oI 2 23 24),
 Y 8 26 21 (oS 2 25),
 Y 9 27 21 (oM 0),
 Y 10 28 21 (oM 9),
 Y 11 29 21 (oK .sub 28 1),
 Y 12 30 21 (oI 2 27 29),
 Y 13 31 21 (oS 2 30),
 Y 14 32 21 (.call true (.t 22) [.t 26, .t 31]),
 Y 15 33 21 (oK .lss 32 0),
 I 16 34 (.pick (.t 21) (.t 33) (kB false))] true [0, 1, 2, 3, 8, 9, 34])
 (.cond (.t 34)
 (.skip)
 (.exit 2)))
 (.seq (.block 3 (.region 0 [
 M 0 37 0,
 M 1 38 9,
 M 2 39 0,
 M 3 40 9,
 I 4 41 (oK .sub 40 1),
 M 5 42 0,
 M 6 43 9,
 I 7 44 (oK .sub 43 1),
 I 8 45 (oI 2 42 44),
 I 9 46 (oS 2 45),
 M 10 47 0,
 M 11 48 9,
 I 12 49 (oI 2 47 48),
 I 13 50 (oS 2 49),
 I 14 51 (oI 2 37 38),
 J 15 (.store 2 (.t 51) (.t 46)),
 I 16 52 (oI 2 39 41),
 J 17 (.store 2 (.t 52) (.t 50))] true [0, 1, 2, 3, 8, 9]))
 (.region 0 [
 M 0 35 9,
 I 1 36 (oK .sub 35 1),
 M 2 9 36] false [0, 1, 2, 3, 8, 9])))
def a2p : AC := .loop [0, 1, 2, 3, 8, 9] a0B
def a0F : AC :=
 (.seq (.seq (.region 0 [
 M 0 12 8,
 M 1 13 2,
 I 2 14 (.bin .lss (.t 12) (.t 13))] false [0, 1, 2, 3, 8, 14])
 (.cond (.t 14)
 (.skip)
 (.exit 0)))
 (.seq (.block 1 (.seq (.region 0 [
 M 0 17 8,
 M 1 9 17] false [0, 1, 2, 3, 8, 9])
 (.block 2 (a2p))))
 (.region 0 [
 M 0 15 8,
 I 1 16 (oK .add 15 1),
 M 2 8 16] false [0, 1, 2, 3, 8])))
def a1L : AC := .loop [0, 1, 2, 3, 8] a0F
def a1c : Fn := ⟨4, 53, [],
 (.seq (.region 0 [
 M 0 10 1,
 I 1 11 (oK .add 10 1),
 M 2 8 11] false [0, 1, 2, 3, 8])
 (.block 0 (a1L))), false⟩
def d7O : Fn := ⟨4, 63, [(8, none), (9, none)],
 (.seq (.region 0 [
 I 0 8 (.mv (kI 0)),
 I 1 9 (.mv (kI 0))] false [0, 1, 2, 3])
 (.seq (.region 0 [
 M 0 15 2,
 M 1 16 1,
 I 2 17 (oB .sub 15 16),
 M 3 10 17] false [0, 1, 3, 10])
 (.seq (.region 1 [
 I 0 11 (.alloc 0 [.int .i64 0])] false [0, 1, 3, 10, 11])
 (.seq (.region 0 [
 M 0 18 1,
 M 1 19 10,
 I 2 20 (oK .quo 19 4),
 I 3 21 (oK .mul 20 1),
 I 4 22 (oB .add 18 21),
 M 5 12 22] false [0, 1, 3, 10, 11, 12])
 (.seq (.region 0 [
 M 0 23 1,
 M 1 24 10,
 I 2 25 (oK .quo 24 4),
 I 3 26 (oK .mul 25 2),
 I 4 27 (oB .add 23 26),
 M 5 13 27] false [0, 1, 3, 10, 11, 12, 13])
 (.seq (.region 0 [
 M 0 28 1,
 M 1 29 10,
 I 2 30 (oK .quo 29 4),
 I 3 31 (oK .mul 30 3),
 I 4 32 (oB .add 28 31),
 M 5 14 32] false [0, 3, 10, 11, 12, 13, 14])
 (.seq (.seq (.region 0 [
 M 0 33 10,
 I 1 34 (.bin .geq (.t 33) (kI 8))] false [0, 3, 10, 11, 12, 13, 14, 34])
 (.cond (.t 34)
 (.seq (.seq (.region 0 [
 M 0 35 10,
 I 1 36 (.bin .geq (.t 35) (kI 50))] false [0, 3, 11, 12, 13, 14, 36])
 (.cond (.t 36)
 (.seq (.region 0 [
 M 0 37 0,
 M 1 38 12,
 M 2 39 3,
 I 3 40 (.call false (.f 194) [.t 37, .t 38, .t 11, .t 39]),
 M 4 12 40] false [0, 3, 11, 12, 13, 14])
 (.seq (.region 0 [
 M 0 41 0,
 M 1 42 13,
 M 2 43 3,
 I 3 44 (.call false (.f 194) [.t 41, .t 42, .t 11, .t 43]),
 M 4 13 44] false [0, 3, 11, 12, 13, 14])
 (.region 0 [
 M 0 45 0,
 M 1 46 14,
 M 2 47 3,
 I 3 48 (.call false (.f 194) [.t 45, .t 46, .t 11, .t 47]),
 M 4 14 48] false [0, 3, 11, 12, 13, 14])))
 (.skip)))
 (.region 0 [
 M 0 49 0,
 M 1 50 12,
 M 2 51 13,
 M 3 52 14,
 M 4 53 3,
 I 5 54 (.call false (.f 195) [.t 49, .t 50, .t 51, .t 52, .t 11, .t 53]),
 M 6 13 54] false [11, 13]))
 (.skip)))
 (.seq (.region 0 [
 I 0 55 (.load none (.t 11))] false [13, 55])
 (.block 0 (.seq (.region 0 [
 I 0 58 (oK .eql 55 0),
 M 1 57 58] false [13, 55, 57])
 (.cond (.t 57)
 (.seq (.region 0 [
 M 0 59 13,
 M 1 8 59,
 I 2 9 (.mv (kI 1))] false [8, 9])
 (.ret))
 (.seq (.region 0 [
 I 0 61 (oK .eql 55 12),
 M 1 60 61] false [13, 60])
 (.cond (.t 60)
 (.seq (.region 0 [
 M 0 62 13,
 M 1 8 62,
 I 2 9 (.mv (kI 2))] false [8, 9])
 (.ret))
 (.seq (.region 0 [
 M 0 56 13,
 M 1 8 56,
 I 2 9 (.mv (kI 0))] false [8, 9])
 (.ret))))))))))))))), false⟩
def d7G : AC :=
 (.seq (.seq (.region 0 [
 M 0 19 9,
 M 1 20 2,
 I 2 21 (oB .lss 19 20),
 M 3 22 21,
 Y 4 23 22 (oM 3),
 Y 5 24 22 (oM 0),
 Y 6 25 22 (oM 9),
 Y 7 26 22 (oI 2 24 25),
 Y 8 27 22 (oS 2 26),
 Y 9 28 22 (oM 0),
 Y 10 29 22 (oM 9),
 Y 11 30 22 (oK .sub 29 1),
 Y 12 31 22 (oI 2 28 30),
 Y 13 32 22 (oS 2 31),
 Y 14 33 22 (.call true (.t 23) [.t 27, .t 32]),
 Y 15 34 22 (oK .lss 33 0),
 Y 16 35 22 (oU .not 34),
 I 17 36 (.pick (.t 22) (.t 35) (kB false))] true [0, 1, 2, 3, 9, 10, 36])
 (.cond (.t 36)
 (.skip)
 (.exit 2)))
 (.block 3 (.region 0 [
 M 0 37 9,
 I 1 38 (oK .add 37 1),
 M 2 9 38] false [0, 1, 2, 3, 9, 10])))
def d8g : AC := .loop [0, 1, 2, 3, 9, 10] d7G
def d8r : AC :=
 (.seq (.seq (.region 0 [
 M 0 68 11,
 I 1 69 (.bin .geq (.t 68) (kI 1))] false [0, 1, 2, 3, 9, 10, 11, 69])
 (.cond (.t 69)
 (.skip)
 (.exit 4)))
 (.seq (.block 5 (.seq (.seq (.region 0 [
 M 0 72 3,
 M 1 73 0,
 M 2 74 11,
 I 3 75 (oI 2 73 74),
 I 4 76 (oS 2 75),
 M 5 77 0,
 M 6 78 11,
 I 7 79 (oK .sub 78 1),
 I 8 80 (oI 2 77 79),
 I 9 81 (oS 2 80),
 I 10 82 (.call true (.t 72) [.t 76, .t 81]),
 I 11 83 (oK .lss 82 0),
 I 12 84 (.un .not (.t 83))] true [0, 1, 2, 3, 9, 10, 11, 84])
 (.cond (.t 84)
 (.exit 4)
 (.skip)))
 (.region 0 [
 M 0 85 0,
 M 1 86 11,
 M 2 87 0,
 M 3 88 11,
 I 4 89 (oK .sub 88 1),
 M 5 90 0,
 M 6 91 11,
 I 7 92 (oK .sub 91 1),
 I 8 93 (oI 2 90 92),
 I 9 94 (oS 2 93),
 M 10 95 0,
 M 11 96 11,
 I 12 97 (oI 2 95 96),
 I 13 98 (oS 2 97),
 I 14 99 (oI 2 85 86),
 J 15 (.store 2 (.t 99) (.t 94)),
 I 16 100 (oI 2 87 89),
 J 17 (.store 2 (.t 100) (.t 98))] true [0, 1, 2, 3, 9, 10, 11])))
 (.region 0 [
 M 0 70 11,
 I 1 71 (oK .sub 70 1),
 M 2 11 71] false [0, 1, 2, 3, 9, 10, 11])))
def d8t : AC := .loop [0, 1, 2, 3, 9, 10, 11] d8r
def d8s : AC :=
 (.seq (.seq (.region 0 [
 M 0 107 12,
 M 1 108 2,
 I 2 109 (.bin .lss (.t 107) (.t 108))] false [0, 1, 2, 3, 9, 10, 12, 109])
 (.cond (.t 109)
 (.skip)
 (.exit 6)))
 (.seq (.block 7 (.seq (.seq (.region 0 [
 M 0 112 3,
 M 1 113 0,
 M 2 114 12,
 I 3 115 (oI 2 113 114),
 I 4 116 (oS 2 115),
 M 5 117 0,
 M 6 118 12,
 I 7 119 (oK .sub 118 1),
 I 8 120 (oI 2 117 119),
 I 9 121 (oS 2 120),
 I 10 122 (.call true (.t 112) [.t 116, .t 121]),
 I 11 123 (oK .lss 122 0),
 I 12 124 (.un .not (.t 123))] true [0, 1, 2, 3, 9, 10, 12, 124])
 (.cond (.t 124)
 (.exit 6)
 (.skip)))
 (.region 0 [
 M 0 125 0,
 M 1 126 12,
 M 2 127 0,
 M 3 128 12,
 I 4 129 (oK .sub 128 1),
 M 5 130 0,
 M 6 131 12,
 I 7 132 (oK .sub 131 1),
 I 8 133 (oI 2 130 132),
 I 9 134 (oS 2 133),
 M 10 135 0,
 M 11 136 12,
 I 12 137 (oI 2 135 136),
 I 13 138 (oS 2 137),
 I 14 139 (oI 2 125 126),
 J 15 (.store 2 (.t 139) (.t 134)),
 I 16 140 (oI 2 127 129),
 J 17 (.store 2 (.t 140) (.t 138))] true [0, 1, 2, 3, 9, 10, 12])))
 (.region 0 [
 M 0 110 12,
 I 1 111 (oK .add 110 1),
 M 2 12 111] false [0, 1, 2, 3, 9, 10, 12])))
def d8u : AC := .loop [0, 1, 2, 3, 9, 10, 12] d8s
def d7M : AC :=
 (.seq (.seq (.region 0 [
 M 0 15 10,
 I 1 16 (.bin .lss (.t 15) (kI 5))] false [0, 1, 2, 3, 9, 10, 16])
 (.cond (.t 16)
 (.skip)
 (.exit 0)))
 (.seq (.block 1 (.seq (.block 2 (d8g))
 (.seq (.seq (.region 0 [
 M 0 39 9,
 M 1 40 2,
 I 2 41 (.bin .eql (.t 39) (.t 40))] false [0, 1, 2, 3, 9, 10, 41])
 (.cond (.t 41)
 (.seq (.region 0 [
 I 0 8 (.mv (kB true))] false [8])
 (.ret))
 (.skip)))
 (.seq (.seq (.region 0 [
 M 0 42 2,
 M 1 43 1,
 I 2 44 (oB .sub 42 43),
 I 3 45 (.bin .lss (.t 44) (kI 50))] false [0, 1, 2, 3, 9, 10, 45])
 (.cond (.t 45)
 (.seq (.region 0 [
 I 0 8 (.mv (kB false))] false [8])
 (.ret))
 (.skip)))
 (.seq (.region 0 [
 M 0 46 0,
 M 1 47 9,
 M 2 48 0,
 M 3 49 9,
 I 4 50 (oK .sub 49 1),
 M 5 51 0,
 M 6 52 9,
 I 7 53 (oK .sub 52 1),
 I 8 54 (oI 2 51 53),
 I 9 55 (oS 2 54),
 M 10 56 0,
 M 11 57 9,
 I 12 58 (oI 2 56 57),
 I 13 59 (oS 2 58),
 I 14 60 (oI 2 46 47),
 J 15 (.store 2 (.t 60) (.t 55)),
 I 16 61 (oI 2 48 50),
 J 17 (.store 2 (.t 61) (.t 59))] true [0, 1, 2, 3, 9, 10])
 (.seq (.seq (.region 0 [
 M 0 62 9,
 M 1 63 1,
 I 2 64 (oB .sub 62 63),
 I 3 65 (.bin .geq (.t 64) (kI 2))] false [0, 1, 2, 3, 9, 10, 65])
 (.cond (.t 65)
 (.seq (.region 0 [
 M 0 66 9,
 I 1 67 (oK .sub 66 1),
 M 2 11 67] false [0, 1, 2, 3, 9, 10, 11])
 (.block 4 (d8t)))
 (.skip)))
 (.seq (.region 0 [
 M 0 101 2,
 M 1 102 9,
 I 2 103 (oB .sub 101 102),
 I 3 104 (.bin .geq (.t 103) (kI 2))] false [0, 1, 2, 3, 9, 10, 104])
 (.cond (.t 104)
 (.seq (.region 0 [
 M 0 105 9,
 I 1 106 (oK .add 105 1),
 M 2 12 106] false [0, 1, 2, 3, 9, 10, 12])
 (.block 6 (d8u)))
 (.skip)))))))))
 (.region 0 [
 M 0 17 10,
 I 1 18 (oK .add 17 1),
 M 2 10 18] false [0, 1, 2, 3, 9, 10])))
def d7N : AC := .loop [0, 1, 2, 3, 9, 10] d7M
def d7L : Fn := ⟨4, 141, [(8, none)],
 (.seq (.region 0 [
 I 0 8 (.mv (kB false))] false [0, 1, 2, 3])
 (.seq (.region 0 [
 M 0 13 1,
 I 1 14 (oK .add 13 1),
 M 2 9 14] false [0, 1, 2, 3, 9])
 (.seq (.seq (.region 0 [
 I 0 10 (.mv (kI 0))] false [0, 1, 2, 3, 9, 10])
 (.block 0 (d7N)))
 (.seq (.region 0 [
 I 0 8 (.mv (kB false))] false [8])
 (.ret))))), false⟩
def d7H : AC :=
 (.seq (.seq (.region 0 [
 M 0 32 12,
 M 1 33 13,
 I 2 34 (oB .leq 32 33),
 M 3 35 34,
 Y 4 36 35 (oM 4),
 Y 5 37 35 (oM 0),
 Y 6 38 35 (oM 12),
 Y 7 39 35 (oI 2 37 38),
 Y 8 40 35 (oS 2 39),
 Y 9 41 35 (oM 0),
 Y 10 42 35 (oM 1),
 Y 11 43 35 (oI 2 41 42),
 Y 12 44 35 (oS 2 43),
 Y 13 45 35 (.call true (.t 36) [.t 40, .t 44]),
 Y 14 46 35 (oK .lss 45 0),
 I 15 47 (.pick (.t 35) (.t 46) (kB false))] true [0, 1, 4, 12, 13, 47])
 (.cond (.t 47)
 (.skip)
 (.exit 0)))
 (.block 1 (.region 0 [
 M 0 48 12,
 I 1 49 (oK .add 48 1),
 M 2 12 49] false [0, 1, 4, 12, 13])))
def d8k : AC := .loop [0, 1, 4, 12, 13] d7H
def d7I : AC :=
 (.seq (.seq (.region 0 [
 M 0 50 12,
 M 1 51 13,
 I 2 52 (oB .leq 50 51),
 M 3 53 52,
 Y 4 54 53 (oM 4),
 Y 5 55 53 (oM 0),
 Y 6 56 53 (oM 13),
 Y 7 57 53 (oI 2 55 56),
 Y 8 58 53 (oS 2 57),
 Y 9 59 53 (oM 0),
 Y 10 60 53 (oM 1),
 Y 11 61 53 (oI 2 59 60),
 Y 12 62 53 (oS 2 61),
 Y 13 63 53 (.call true (.t 54) [.t 58, .t 62]),
 Y 14 64 53 (oK .lss 63 0),
 Y 15 65 53 (oU .not 64),
 I 16 66 (.pick (.t 53) (.t 65) (kB false))] true [0, 1, 4, 12, 13, 66])
 (.cond (.t 66)
 (.skip)
 (.exit 2)))
 (.block 3 (.region 0 [
 M 0 67 13,
 I 1 68 (oK .sub 67 1),
 M 2 13 68] false [0, 1, 4, 12, 13])))
def d8l : AC := .loop [0, 1, 4, 12, 13] d7I
def d7J : AC :=
 (.seq (.seq (.region 0 [
 M 0 105 12,
 M 1 106 13,
 I 2 107 (oB .leq 105 106),
 M 3 108 107,
 Y 4 109 108 (oM 4),
 Y 5 110 108 (oM 0),
 Y 6 111 108 (oM 12),
 Y 7 112 108 (oI 2 110 111),
 Y 8 113 108 (oS 2 112),
 Y 9 114 108 (oM 0),
 Y 10 115 108 (oM 1),
 Y 11 116 108 (oI 2 114 115),
 Y 12 117 108 (oS 2 116),
 Y 13 118 108 (.call true (.t 109) [.t 113, .t 117]),
 Y 14 119 108 (oK .lss 118 0),
 I 15 120 (.pick (.t 108) (.t 119) (kB false))] true [0, 1, 4, 12, 13, 120])
 (.cond (.t 120)
 (.skip)
 (.exit 6)))
 (.block 7 (.region 0 [
 M 0 121 12,
 I 1 122 (oK .add 121 1),
 M 2 12 122] false [0, 1, 4, 12, 13])))
def d8n : AC := .loop [0, 1, 4, 12, 13] d7J
def d7K : AC :=
 (.seq (.seq (.region 0 [
 M 0 123 12,
 M 1 124 13,
 I 2 125 (oB .leq 123 124),
 M 3 126 125,
 Y 4 127 126 (oM 4),
 Y 5 128 126 (oM 0),
 Y 6 129 126 (oM 13),
 Y 7 130 126 (oI 2 128 129),
 Y 8 131 126 (oS 2 130),
 Y 9 132 126 (oM 0),
 Y 10 133 126 (oM 1),
 Y 11 134 126 (oI 2 132 133),
 Y 12 135 126 (oS 2 134),
 Y 13 136 126 (.call true (.t 127) [.t 131, .t 135]),
 Y 14 137 126 (oK .lss 136 0),
 Y 15 138 126 (oU .not 137),
 I 16 139 (.pick (.t 126) (.t 138) (kB false))] true [0, 1, 4, 12, 13, 139])
 (.cond (.t 139)
 (.skip)
 (.exit 8)))
 (.block 9 (.region 0 [
 M 0 140 13,
 I 1 141 (oK .sub 140 1),
 M 2 13 141] false [0, 1, 4, 12, 13])))
def d8o : AC := .loop [0, 1, 4, 12, 13] d7K
def d7Q : AC :=
 (.block 5 (.seq (.block 6 (d8n))
 (.seq (.block 8 (d8o))
 (.seq (.seq (.region 0 [
 M 0 142 12,
 M 1 143 13,
 I 2 144 (.bin .gtr (.t 142) (.t 143))] false [0, 1, 4, 12, 13, 144])
 (.cond (.t 144)
 (.exit 4)
 (.skip)))
 (.seq (.region 0 [
 M 0 145 0,
 M 1 146 12,
 M 2 147 0,
 M 3 148 13,
 M 4 149 0,
 M 5 150 13,
 I 6 151 (oI 2 149 150),
 I 7 152 (oS 2 151),
 M 8 153 0,
 M 9 154 12,
 I 10 155 (oI 2 153 154),
 I 11 156 (oS 2 155),
 I 12 157 (oI 2 145 146),
 J 13 (.store 2 (.t 157) (.t 152)),
 I 14 158 (oI 2 147 148),
 J 15 (.store 2 (.t 158) (.t 156))] true [0, 1, 4, 12, 13])
 (.seq (.region 0 [
 M 0 159 12,
 I 1 160 (oK .add 159 1),
 M 2 12 160] false [0, 1, 4, 12, 13])
 (.region 0 [
 M 0 161 13,
 I 1 162 (oK .sub 161 1),
 M 2 13 162] false [0, 1, 4, 12, 13])))))))
def d8m : AC := .loop [0, 1, 4, 12, 13] d7Q
def d7P : Fn := ⟨5, 178, [(10, none), (11, none)],
 (.seq (.region 0 [
 I 0 10 (.mv (kI 0)),
 I 1 11 (.mv (kB false))] false [0, 1, 2, 3, 4])
 (.seq (.region 0 [
 M 0 14 0,
 M 1 15 1,
 M 2 16 0,
 M 3 17 3,
 M 4 18 0,
 M 5 19 3,
 I 6 20 (oI 2 18 19),
 I 7 21 (oS 2 20),
 M 8 22 0,
 M 9 23 1,
 I 10 24 (oI 2 22 23),
 I 11 25 (oS 2 24),
 I 12 26 (oI 2 14 15),
 J 13 (.store 2 (.t 26) (.t 21)),
 I 14 27 (oI 2 16 17),
 J 15 (.store 2 (.t 27) (.t 25))] true [0, 1, 2, 4])
 (.seq (.region 0 [
 M 0 28 1,
 I 1 29 (oK .add 28 1),
 M 2 30 2,
 I 3 31 (oK .sub 30 1),
 M 4 12 29,
 M 5 13 31] false [0, 1, 4, 12, 13])
 (.seq (.block 0 (d8k))
 (.seq (.block 2 (d8l))
 (.seq (.seq (.region 0 [
 M 0 69 12,
 M 1 70 13,
 I 2 71 (.bin .gtr (.t 69) (.t 70))] false [0, 1, 4, 12, 13, 71])
 (.cond (.t 71)
 (.seq (.region 0 [
 M 0 72 0,
 M 1 73 13,
 M 2 74 0,
 M 3 75 1,
 M 4 76 0,
 M 5 77 1,
 I 6 78 (oI 2 76 77),
 I 7 79 (oS 2 78),
 M 8 80 0,
 M 9 81 13,
 I 10 82 (oI 2 80 81),
 I 11 83 (oS 2 82),
 I 12 84 (oI 2 72 73),
 J 13 (.store 2 (.t 84) (.t 79)),
 I 14 85 (oI 2 74 75),
 J 15 (.store 2 (.t 85) (.t 83))] true [13])
 (.seq (.region 0 [
 M 0 86 13,
 M 1 10 86,
 I 2 11 (.mv (kB true))] false [10, 11])
 (.ret)))
 (.skip)))
 (.seq (.region 0 [
 M 0 87 0,
 M 1 88 12,
 M 2 89 0,
 M 3 90 13,
 M 4 91 0,
 M 5 92 13,
 I 6 93 (oI 2 91 92),
 I 7 94 (oS 2 93),
 M 8 95 0,
 M 9 96 12,
 I 10 97 (oI 2 95 96),
 I 11 98 (oS 2 97),
 I 12 99 (oI 2 87 88),
 J 13 (.store 2 (.t 99) (.t 94)),
 I 14 100 (oI 2 89 90),
 J 15 (.store 2 (.t 100) (.t 98))] true [0, 1, 4, 12, 13])
 (.seq (.region 0 [
 M 0 101 12,
 I 1 102 (oK .add 101 1),
 M 2 12 102] false [0, 1, 4, 12, 13])
 (.seq (.region 0 [
 M 0 103 13,
 I 1 104 (oK .sub 103 1),
 M 2 13 104] false [0, 1, 4, 12, 13])
 (.seq (.block 4 (d8m))
 (.seq (.region 0 [
 M 0 163 0,
 M 1 164 13,
 M 2 165 0,
 M 3 166 1,
 M 4 167 0,
 M 5 168 1,
 I 6 169 (oI 2 167 168),
 I 7 170 (oS 2 169),
 M 8 171 0,
 M 9 172 13,
 I 10 173 (oI 2 171 172),
 I 11 174 (oS 2 173),
 I 12 175 (oI 2 163 164),
 J 13 (.store 2 (.t 175) (.t 170)),
 I 14 176 (oI 2 165 166),
 J 15 (.store 2 (.t 176) (.t 174))] true [13])
 (.seq (.region 0 [
 M 0 177 13,
 M 1 10 177,
 I 2 11 (.mv (kB false))] false [10, 11])
 (.ret))))))))))))), false⟩
def a0P : Fn := ⟨1, 25, [(2, none)],
 (.seq (.region 0 [
 I 0 2 (.mv (kI 0))] false [0, 2])
 (.seq (.seq (.region 0 [
 M 0 3 0,
 I 1 4 (.bin .geq (.t 3) (.k (.sc (.int .u64 4294967296))))] false [0, 2, 4])
 (.cond (.t 4)
 (.seq (.region 0 [
 M 0 5 0,
 I 1 6 (.bin .shr (.t 5) (.k (.sc (.int .u64 32)))),
 M 2 0 6] false [0])
 (.region 0 [
 I 0 2 (.mv (kI 32))] false [0, 2]))
 (.skip)))
 (.seq (.seq (.region 0 [
 M 0 7 0,
 I 1 8 (.bin .geq (.t 7) (.k (.sc (.int .u64 65536))))] false [0, 2, 8])
 (.cond (.t 8)
 (.seq (.region 0 [
 M 0 9 0,
 I 1 10 (.bin .shr (.t 9) (.k (.sc (.int .u64 16)))),
 M 2 0 10] false [0, 2])
 (.region 0 [
 M 0 11 2,
 I 1 12 (oK .add 11 16),
 M 2 2 12] false [0, 2]))
 (.skip)))
 (.seq (.seq (.region 0 [
 M 0 13 0,
 I 1 14 (.bin .geq (.t 13) (.k (.sc (.int .u64 256))))] false [0, 2, 14])
 (.cond (.t 14)
 (.seq (.region 0 [
 M 0 15 0,
 I 1 16 (.bin .shr (.t 15) (.k (.sc (.int .u64 8)))),
 M 2 0 16] false [0, 2])
 (.region 0 [
 M 0 17 2,
 I 1 18 (oK .add 17 8),
 M 2 2 18] false [0, 2]))
 (.skip)))
 (.seq (.region 0 [
 M 0 19 2,
 M 1 20 0,
 I 2 21 (.conv .u8 (.t 20)),
 I 3 22 (.istr (.k (.sc (.str ⟨#[0, 1, 2, 2, 3, 3, 3, 3, 4, 4, 4, 4, 4, 4, 4, 4, 5, 5, 5, 5, 5, 5, 5, 5, 5, 5, 5, 5, 5, 5, 5, 5, 6, 6, 6, 6, 6, 6, 6, 6, 6, 6, 6, 6, 6, 6, 6, 6, 6, 6, 6, 6, 6, 6, 6, 6, 6, 6, 6, 6, 6, 6, 6, 6, 7, 7, 7, 7, 7, 7, 7, 7, 7, 7, 7, 7, 7, 7, 7, 7, 7, 7, 7, 7, 7, 7, 7, 7, 7, 7, 7, 7, 7, 7, 7, 7, 7, 7, 7, 7, 7, 7, 7, 7, 7, 7, 7, 7, 7, 7, 7, 7, 7, 7, 7, 7, 7, 7, 7, 7, 7, 7, 7, 7, 7, 7, 7, 7, 8, 8, 8, 8, 8, 8, 8, 8, 8, 8, 8, 8, 8, 8, 8, 8, 8, 8, 8, 8, 8, 8, 8, 8, 8, 8, 8, 8, 8, 8, 8, 8, 8, 8, 8, 8, 8, 8, 8, 8, 8, 8, 8, 8, 8, 8, 8, 8, 8, 8, 8, 8, 8, 8, 8, 8, 8, 8, 8, 8, 8, 8, 8, 8, 8, 8, 8, 8, 8, 8, 8, 8, 8, 8, 8, 8, 8, 8, 8, 8, 8, 8, 8, 8, 8, 8, 8, 8, 8, 8, 8, 8, 8, 8, 8, 8, 8, 8, 8, 8, 8, 8, 8, 8, 8, 8, 8, 8, 8, 8, 8, 8, 8, 8, 8, 8, 8, 8, 8, 8, 8, 8, 8, 8, 8, 8, 8, 8]⟩))) (.t 21)),
 I 4 23 (.conv .i64 (.t 22)),
 I 5 24 (oB .add 19 23),
 M 6 2 24] false [2])
 (.ret)))))), false⟩
def a2R : AC :=
 (.seq (.region 0 [
 I 0 9 (.bin .lss (.t 8) (.t 7))] false [0, 1, 7, 8, 9])
 (.seq (.cond (.t 9)
 (.skip)
 (.exit 0))
 (.seq (.block 1 (.seq (.region 0 [
 M 0 10 8,
 M 1 5 10] false [0, 1, 5, 7, 8])
 (.seq (.region 0 [
 M 0 11 1,
 M 1 12 0,
 M 2 13 5,
 I 3 14 (oI 1 12 13),
 I 4 15 (oL 14),
 I 5 16 (.bin .eql (.t 11) (.t 15))] false [0, 1, 5, 7, 8, 16])
 (.cond (.t 16)
 (.seq (.region 0 [
 M 0 17 5,
 M 1 4 17] false [4])
 (.ret))
 (.skip)))))
 (.region 0 [
 I 0 18 (oK .add 8 1),
 M 1 8 18] false [0, 1, 7, 8]))))
def a8d : AC := .loop [0, 1, 7, 8] a2R
def a3r : Fn := ⟨2, 19, [(4, none)],
 (.seq (.region 0 [
 I 0 4 (.mv (kI 0))] false [0, 1])
 (.seq (.seq (.region 0 [
 M 0 6 0,
 I 1 7 (oN 1 6),
 I 2 8 (.mv (kI 0))] false [0, 1, 7, 8])
 (.block 0 (a8d)))
 (.seq (.region 0 [
 I 0 4 (.mv (kI (-1)))] false [4])
 (.ret)))), false⟩
def d7F : Fn := ⟨6, 41, [(12, none)],
 (.seq (.region 0 [
 I 0 12 (.mv (kI 0))] false [0, 1, 2, 3, 4, 5])
 (.seq (.region 0 [
 M 0 14 0,
 M 1 15 1,
 M 2 16 2,
 M 3 17 4,
 M 4 18 5,
 I 5 19 (.call false (.f 198) [.t 14, .t 15, .t 16, .t 17, .t 18]),
 M 6 13 19,
 I 7 20 (oE 13 0),
 I 8 21 (oE 13 1),
 M 9 1 20,
 M 10 2 21] false [0, 1, 2, 3, 4, 5])
 (.seq (.region 0 [
 M 0 23 0,
 M 1 24 2,
 M 2 25 3,
 M 3 26 4,
 M 4 27 5,
 I 5 28 (.call false (.f 198) [.t 23, .t 24, .t 25, .t 26, .t 27]),
 M 6 22 28,
 I 7 29 (oE 22 0),
 I 8 30 (oE 22 1),
 M 9 2 29,
 M 10 3 30] false [0, 1, 2, 4, 5])
 (.seq (.region 0 [
 M 0 32 0,
 M 1 33 1,
 M 2 34 2,
 M 3 35 4,
 M 4 36 5,
 I 5 37 (.call false (.f 198) [.t 32, .t 33, .t 34, .t 35, .t 36]),
 M 6 31 37,
 I 7 38 (oE 31 0),
 I 8 39 (oE 31 1),
 M 9 1 38,
 M 10 2 39] false [2])
 (.seq (.region 0 [
 M 0 40 2,
 M 1 12 40] false [12])
 (.ret)))))), false⟩
def d7R : Fn := ⟨5, 32, [(10, none), (11, none)],
 (.seq (.region 0 [
 I 0 10 (.mv (kI 0)),
 I 1 11 (.mv (kI 0))] false [0, 1, 2, 3, 4])
 (.seq (.seq (.region 0 [
 M 0 12 4,
 M 1 13 0,
 M 2 14 2,
 I 3 15 (oI 2 13 14),
 I 4 16 (oS 2 15),
 M 5 17 0,
 M 6 18 1,
 I 7 19 (oI 2 17 18),
 I 8 20 (oS 2 19),
 I 9 21 (.call true (.t 12) [.t 16, .t 20]),
 I 10 22 (.bin .lss (.t 21) (kI 0))] true [1, 2, 3, 22])
 (.cond (.t 22)
 (.seq (.region 0 [
 M 0 23 3,
 I 1 24 (.nilchk (.t 23)),
 I 2 25 (oL 24),
 I 3 26 (oK .add 25 1),
 I 4 27 (.nilchk (.t 23)),
 J 5 (.store 1 (.t 27) (.t 26))] false [1, 2])
 (.seq (.region 0 [
 M 0 28 2,
 M 1 29 1,
 M 2 10 28,
 M 3 11 29] false [10, 11])
 (.ret)))
 (.skip)))
 (.seq (.region 0 [
 M 0 30 1,
 M 1 31 2,
 M 2 10 30,
 M 3 11 31] false [10, 11])
 (.ret)))), false⟩
def a4g : Fn := ⟨3, 8, [(6, none)],
 (.seq (.region 2 [
 I 0 3 (.box 0 (.t 0)),
 I 1 5 (.box 1 (.t 2)),
 I 2 6 (.mv (kI 0))] false [1])
 (.seq (.region 0 [
 M 0 7 1,
 M 1 6 7] false [6])
 (.ret))), false⟩
def a3n : Fn := ⟨3, 24, [(6, none)],
 (.seq (.region 2 [
 I 0 3 (.box 0 (.t 0)),
 I 1 5 (.box 1 (.t 2)),
 I 2 6 (.mv (kI 0))] false [1, 3, 5])
 (.seq (.seq (.region 0 [
 I 0 7 (oS 3 3),
 I 1 8 (.call true (.f 197) []),
 I 2 9 (.eqf false ⟨true, [1, 1, 1]⟩ (.t 7) (.t 8))] true [1, 3, 5, 9])
 (.cond (.t 9)
 (.seq (.region 0 [
 M 0 10 1,
 M 1 6 10] false [6])
 (.ret))
 (.skip)))
 (.seq (.region 0 [
 M 0 11 1,
 I 1 12 (oF 0 5),
 I 2 13 (oL 12),
 I 3 14 (.iarr 3 1 (.t 3) (kI 0)),
 I 4 15 (oL 14),
 I 5 16 (oB .mul 13 15),
 I 6 17 (oB .sub 11 16),
 I 7 18 (oF 1 5),
 I 8 19 (oL 18),
 I 9 20 (.iarr 3 1 (.t 3) (kI 1)),
 I 10 21 (oL 20),
 I 11 22 (oB .mul 19 21),
 I 12 23 (oB .sub 17 22),
 M 13 6 23] false [6])
 (.ret)))), false⟩
def a1a : Fn := ⟨1, 8, [(2, none)],
 (.seq (.region 0 [
 I 0 2 (.mv (.k (.sc (.sl .nil 2 []))))] false [0])
 (.seq (.seq (.region 0 [
 M 0 3 0,
 I 1 4 (.isnil 0 false (.t 3))] false [0, 4])
 (.cond (.t 4)
 (.seq (.region 0 [
 I 0 2 (.mv (.k (.sc (.sl .nil 2 []))))] false [2])
 (.ret))
 (.skip)))
 (.seq (.region 1 [
 I 0 5 (.bslice 2 0 [.int .i64 0, .int .i64 0] []),
 M 1 6 0,
 I 2 7 (.appendM 0 2 (.t 5) (.t 6)),
 I 3 2 (.mv (.tk 7))] false [2])
 (.ret)))), true⟩
def e1Y : Fn := ⟨2, 101, [(4, none)],
 (.seq (.region 1 [
 I 0 2 (.box 0 (.t 0)),
 I 1 4 (.mv (kB false))] false [1, 2])
 (.seq (.region 0 [
 I 0 16 (oS 10 2),
 I 1 17 (o1 101 16),
 M 2 15 17,
 I 3 18 (oE 15 0),
 I 4 19 (oE 15 1),
 I 5 20 (oE 15 2),
 M 6 5 18,
 M 7 6 19,
 M 8 7 20] false [1, 2, 5, 6, 7])
 (.seq (.region 0 [
 I 0 22 (oS 10 2),
 I 1 23 (o1 102 22),
 M 2 21 23,
 I 3 24 (oE 21 0),
 I 4 25 (oE 21 1),
 I 5 26 (oE 21 2),
 M 6 8 24,
 M 7 9 25,
 M 8 10 26] false [1, 2, 5, 6, 7, 8, 9, 10])
 (.seq (.seq (.region 0 [
 M 0 27 5,
 M 1 28 8,
 I 2 29 (oB .neq 27 28),
 M 3 30 29,
 U 4 31 30 (oM 6),
 U 5 32 30 (oM 9),
 U 6 33 30 (oB .neq 31 32),
 I 7 34 (oO 30 33),
 M 8 35 34,
 U 9 36 35 (oM 7),
 U 10 37 35 (oM 10),
 U 11 38 35 (oB .neq 36 37),
 I 12 39 (.pick (.t 35) (kB true) (.t 38))] false [1, 2, 39])
 (.cond (.t 39)
 (.seq (.region 0 [
 I 0 4 (.mv (kB false))] false [4])
 (.ret))
 (.skip)))
 (.seq (.region 0 [
 I 0 41 (oS 10 2),
 M 1 42 1,
 I 2 43 (o2 103 41 42),
 M 3 40 43,
 I 4 44 (oE 40 0),
 I 5 45 (oE 40 1),
 M 6 11 44,
 M 7 7 45] false [1, 2, 7, 11])
 (.seq (.region 0 [
 I 0 47 (oS 10 2),
 M 1 48 1,
 I 2 49 (o2 104 47 48),
 M 3 46 49,
 I 4 50 (oE 46 0),
 I 5 51 (oE 46 1),
 M 6 12 50,
 M 7 10 51] false [1, 2, 7, 10, 11, 12])
 (.seq (.seq (.region 0 [
 M 0 52 11,
 M 1 53 12,
 I 2 54 (.eqf true ⟨false, [0]⟩ (.t 52) (.t 53)),
 M 3 55 54,
 U 4 56 55 (oM 7),
 U 5 57 55 (oM 10),
 U 6 58 55 (oB .neq 56 57),
 I 7 59 (.pick (.t 55) (kB true) (.t 58))] false [1, 2, 59])
 (.cond (.t 59)
 (.seq (.region 0 [
 I 0 4 (.mv (kB false))] false [4])
 (.ret))
 (.skip)))
 (.seq (.region 0 [
 I 0 61 (oS 10 2),
 M 1 62 1,
 I 2 63 (o2 105 61 62),
 M 3 60 63,
 I 4 64 (oE 60 0),
 I 5 65 (oE 60 1),
 M 6 11 64,
 M 7 7 65] false [1, 2, 7, 11])
 (.seq (.region 0 [
 I 0 67 (oS 10 2),
 M 1 68 1,
 I 2 69 (o2 106 67 68),
 M 3 66 69,
 I 4 70 (oE 66 0),
 I 5 71 (oE 66 1),
 M 6 12 70,
 M 7 10 71] false [2, 7, 10, 11, 12])
 (.seq (.seq (.region 0 [
 M 0 72 11,
 M 1 73 12,
 I 2 74 (.eqf true ⟨false, [0]⟩ (.t 72) (.t 73)),
 M 3 75 74,
 U 4 76 75 (oM 7),
 U 5 77 75 (oM 10),
 U 6 78 75 (oB .neq 76 77),
 I 7 79 (.pick (.t 75) (kB true) (.t 78))] false [2, 79])
 (.cond (.t 79)
 (.seq (.region 0 [
 I 0 4 (.mv (kB false))] false [4])
 (.ret))
 (.skip)))
 (.seq (.region 0 [
 I 0 81 (oS 10 2),
 I 1 82 (o1 107 81),
 M 2 80 82,
 I 3 83 (oE 80 0),
 I 4 84 (oE 80 1),
 M 5 13 83,
 M 6 7 84] false [2, 7, 13])
 (.seq (.region 0 [
 I 0 86 (oS 10 2),
 I 1 87 (o1 108 86),
 M 2 85 87,
 I 3 88 (oE 85 0),
 I 4 89 (oE 85 1),
 M 5 14 88,
 M 6 10 89] false [7, 10, 13, 14])
 (.seq (.region 0 [
 M 0 90 13,
 M 1 91 14,
 I 2 92 (o2 109 90 91),
 M 3 93 92,
 Y 4 94 93 (oM 7),
 Y 5 95 93 (oM 10),
 Y 6 96 93 (oB .eql 94 95),
 I 7 97 (oA 93 96),
 M 8 98 97,
 Y 9 99 98 (.call true (.f 110) []),
 I 10 100 (oA 98 99),
 M 11 4 100] false [4])
 (.ret)))))))))))))), false⟩
def e1J : AC :=
 (.seq (.seq (.region 0 [
 M 0 26 8,
 I 1 27 (oF 0 1),
 I 2 28 (oL 27),
 I 3 29 (oN 1 28),
 I 4 30 (.bin .lss (.t 26) (.t 29))] false [1, 5, 7, 8, 30])
 (.cond (.t 30)
 (.skip)
 (.exit 2)))
 (.seq (.block 3 (.seq (.region 0 [
 I 0 33 (oS 10 1),
 M 1 34 5,
 M 2 35 8,
 M 3 36 7,
 I 4 37 (oF 8 1),
 I 5 38 (oL 37),
 I 6 39 (.call true (.f 116) [.t 33, .t 34, .t 35, .t 36, .t 38])] false [1, 5, 7, 8, 39])
 (.cond (.t 39)
 (.seq (.region 0 [
 M 0 40 7,
 M 1 41 8,
 M 2 2 40,
 M 3 3 41,
 I 4 4 (.mv (kI 0))] false [2, 3, 4])
 (.ret))
 (.skip))))
 (.region 0 [
 M 0 31 8,
 I 1 32 (oK .add 31 1),
 M 2 8 32] false [1, 5, 7, 8])))
def e2u : AC := .loop [1, 5, 7, 8] e1J
def e1I : AC :=
 (.seq (.seq (.region 0 [
 M 0 19 7,
 I 1 20 (oF 7 1),
 I 2 21 (oL 20),
 I 3 22 (oN 1 21),
 I 4 23 (.bin .lss (.t 19) (.t 22))] false [1, 5, 7, 23])
 (.cond (.t 23)
 (.skip)
 (.exit 0)))
 (.seq (.block 1 (.seq (.region 0 [
 I 0 8 (.mv (kI 0))] false [1, 5, 7, 8])
 (.block 2 (e2u))))
 (.region 0 [
 M 0 24 7,
 I 1 25 (oK .add 24 1),
 M 2 7 25] false [1, 5, 7])))
def e2t : AC := .loop [1, 5, 7] e1I
def e1K : Fn := ⟨1, 42, [(2, none), (3, none), (4, none)],
 (.seq (.region 1 [
 I 0 1 (.box 0 (.t 0)),
 I 1 2 (.mv (kI 0)),
 I 2 3 (.mv (kI 0)),
 I 3 4 (.mv (kI 0))] false [1])
 (.seq (.region 0 [
 I 0 10 (oS 10 1),
 I 1 11 (.call true (.f 114) [.t 10, .k (.sc (.bool true))]),
 M 2 9 11,
 I 3 12 (oE 9 0),
 I 4 13 (oE 9 1),
 M 5 5 12,
 M 6 6 13] false [1, 5, 6])
 (.seq (.seq (.region 0 [
 M 0 14 6,
 I 1 15 (.bin .neq (.t 14) (kI 0))] false [1, 5, 6, 15])
 (.cond (.t 15)
 (.seq (.region 0 [
 M 0 16 6,
 I 1 2 (.mv (kI 0)),
 I 2 3 (.mv (kI 0)),
 M 3 4 16] false [2, 3, 4])
 (.ret))
 (.skip)))
 (.seq (.seq (.region 0 [
 I 0 17 (oS 10 1),
 I 1 18 (o1 115 17),
 M 2 7 18] false [1, 5, 7])
 (.block 0 (e2t)))
 (.seq (.region 0 [
 I 0 2 (.mv (kI 0)),
 I 1 3 (.mv (kI 0)),
 I 2 4 (.mv (kI 4))] false [2, 3, 4])
 (.ret)))))), false⟩
def e1Z : Fn := ⟨2, 15, [(4, none), (5, none)],
 (.seq (.region 1 [
 I 0 2 (.box 0 (.t 0)),
 I 1 4 (.mv (kB false)),
 I 2 5 (.mv (kI 0))] false [1, 2])
 (.seq (.seq (.region 0 [
 I 0 7 (oS 10 2),
 I 1 8 (o1 119 7),
 M 2 6 8] false [1, 2, 6])
 (.seq (.region 0 [
 M 0 9 6,
 I 1 10 (.bin .neq (.t 9) (kI 0))] false [1, 2, 6, 10])
 (.cond (.t 10)
 (.seq (.region 0 [
 M 0 11 6,
 I 1 4 (.mv (kB false)),
 M 2 5 11] false [4, 5])
 (.ret))
 (.skip))))
 (.seq (.region 0 [
 I 0 12 (oS 10 2),
 M 1 13 1,
 I 2 14 (o2 120 12 13),
 M 3 4 14,
 I 4 5 (.mv (kI 0))] false [4, 5])
 (.ret)))), false⟩
def e1C : AC :=
 (.seq (.seq (.region 0 [
 M 0 34 10,
 M 1 35 34,
 Y 2 36 35 (oM 11),
 Y 3 37 35 (oF 0 2),
 Y 4 38 35 (oL 37),
 Y 5 39 35 (oN 1 38),
 Y 6 40 35 (oB .lss 36 39),
 I 7 41 (.pick (.t 35) (.t 40) (kB false))] false [2, 7, 9, 10, 11, 41])
 (.cond (.t 41)
 (.skip)
 (.exit 0)))
 (.seq (.block 1 (.region 0 [
 I 0 44 (oS 10 2),
 M 1 45 7,
 M 2 46 11,
 M 3 47 9,
 I 4 48 (o4 126 44 45 46 47),
 M 5 10 48] false [2, 7, 9, 10, 11]))
 (.region 0 [
 M 0 42 11,
 I 1 43 (oK .add 42 1),
 M 2 11 43] false [2, 7, 9, 10, 11])))
def e2d : AC := .loop [2, 7, 9, 10, 11] e1C
def e1D : Fn := ⟨2, 50, [(4, none), (5, none)],
 (.seq (.region 1 [
 I 0 2 (.box 0 (.t 0)),
 I 1 4 (.mv (kB false)),
 I 2 5 (.mv (kI 0))] false [1, 2])
 (.seq (.seq (.region 0 [
 I 0 12 (oS 10 2),
 I 1 13 (o1 119 12),
 M 2 6 13] false [1, 2, 6])
 (.seq (.region 0 [
 M 0 14 6,
 I 1 15 (.bin .neq (.t 14) (kI 0))] false [1, 2, 6, 15])
 (.cond (.t 15)
 (.seq (.region 0 [
 M 0 16 6,
 I 1 4 (.mv (kB false)),
 M 2 5 16] false [4, 5])
 (.ret))
 (.skip))))
 (.seq (.region 0 [
 I 0 18 (oS 10 2),
 I 1 19 (oS 10 2),
 M 2 20 1,
 I 3 21 (o2 120 19 20),
 I 4 22 (o2 114 18 21),
 M 5 17 22,
 I 6 23 (oE 17 0),
 I 7 24 (oE 17 1),
 M 8 7 23,
 M 9 8 24] true [1, 2, 7, 8])
 (.seq (.seq (.region 0 [
 M 0 25 8,
 I 1 26 (.bin .neq (.t 25) (kI 0))] false [1, 2, 7, 8, 26])
 (.cond (.t 26)
 (.seq (.region 0 [
 M 0 27 8,
 I 1 4 (.mv (kB false)),
 M 2 5 27] false [4, 5])
 (.ret))
 (.skip)))
 (.seq (.region 0 [
 I 0 28 (oS 10 2),
 M 1 29 1,
 I 2 30 (o2 124 28 29),
 M 3 9 30] false [2, 7, 9])
 (.seq (.region 0 [
 I 0 31 (oS 10 2),
 M 1 32 9,
 I 2 33 (o2 125 31 32),
 M 3 10 33] false [2, 7, 9, 10])
 (.seq (.seq (.region 0 [
 I 0 11 (.mv (kI 0))] false [2, 7, 9, 10, 11])
 (.block 0 (e2d)))
 (.seq (.region 0 [
 M 0 49 10,
 M 1 4 49,
 I 2 5 (.mv (kI 0))] false [4, 5])
 (.ret))))))))), false⟩
def e1W : AC :=
 (.seq (.seq (.region 0 [
 M 0 18 7,
 I 1 19 (oF 0 1),
 I 2 20 (oL 19),
 I 3 21 (oN 1 20),
 I 4 22 (.bin .lss (.t 18) (.t 21))] false [1, 4, 6, 7, 22])
 (.cond (.t 22)
 (.skip)
 (.exit 0)))
 (.seq (.block 1 (.region 0 [
 I 0 25 (.mv (.tk 6)),
 I 1 26 (oS 10 1),
 M 2 27 4,
 M 3 28 7,
 I 4 29 (o3 132 26 27 28),
 I 5 30 (.bslice 1 1 [.sl .nil 1 []] [(0, .t 29)]),
 I 6 31 (.append 1 (.tk 25) (.t 30)),
 I 7 6 (.mv (.tk 31))] false [1, 4, 6, 7]))
 (.region 0 [
 M 0 23 7,
 I 1 24 (oK .add 23 1),
 M 2 7 24] false [1, 4, 6, 7])))
def e2x : AC := .loop [1, 4, 6, 7] e1W
def e1O : Fn := ⟨1, 41, [(2, none), (3, none)],
 (.seq (.region 1 [
 I 0 1 (.box 0 (.t 0)),
 I 1 2 (.mv (.k (.sc (.sl .nil 2 [])))),
 I 2 3 (.mv (kI 0))] false [1])
 (.seq (.region 0 [
 I 0 11 (oS 10 1),
 I 1 12 (.call true (.f 114) [.t 11, .k (.sc (.bool true))]),
 M 2 10 12,
 I 3 13 (oE 10 0),
 I 4 14 (oE 10 1),
 M 5 4 13,
 M 6 5 14] false [1, 4, 5])
 (.seq (.seq (.region 0 [
 M 0 15 5,
 I 1 16 (.bin .neq (.t 15) (kI 0))] false [1, 4, 5, 16])
 (.cond (.t 16)
 (.seq (.region 0 [
 M 0 17 5,
 I 1 2 (.mv (.k (.sc (.sl .nil 2 [])))),
 M 2 3 17] false [2, 3])
 (.ret))
 (.skip)))
 (.seq (.region 0 [
 I 0 6 (.mv (.k (.sc (.sl .nil 1 []))))] false [1, 4, 6])
 (.seq (.seq (.region 0 [
 I 0 7 (.mv (kI 0))] false [1, 4, 6, 7])
 (.block 0 (e2x)))
 (.seq (.region 0 [
 I 0 33 (oS 10 1),
 M 1 34 6,
 I 2 35 (.call true (.f 133) [.t 33, .t 34, .k (.sc (.sl .nil 1 []))]),
 M 3 32 35,
 I 4 36 (oE 32 0),
 I 5 37 (oE 32 1),
 M 6 8 36,
 M 7 9 37] false [8, 9])
 (.seq (.seq (.region 0 [
 M 0 38 9,
 I 1 39 (.un .not (.t 38))] false [8, 39])
 (.cond (.t 39)
 (.seq (.region 0 [
 I 0 2 (.mv (.k (.sc (.sl .nil 2 [])))),
 I 1 3 (.mv (kI 4))] false [2, 3])
 (.ret))
 (.skip)))
 (.seq (.region 0 [
 M 0 40 8,
 M 1 2 40,
 I 2 3 (.mv (kI 0))] false [2, 3])
 (.ret))))))))), false⟩
def e1X : AC :=
 (.seq (.seq (.region 0 [
 M 0 5 4,
 I 1 6 (oF 9 1),
 I 2 7 (oL 6),
 I 3 8 (oN 1 7),
 I 4 9 (.bin .lss (.t 5) (.t 8))] false [1, 3, 4, 9])
 (.cond (.t 9)
 (.skip)
 (.exit 0)))
 (.seq (.block 1 (.region 0 [
 M 0 12 3,
 I 1 13 (oF 9 1),
 I 2 14 (oL 13),
 M 3 15 4,
 I 4 16 (oI 4 14 15),
 I 5 17 (oF 1 16),
 I 6 18 (oL 17),
 I 7 19 (oK .add 18 1),
 I 8 20 (.max (.t 12) [.t 19]),
 M 9 3 20] false [1, 3, 4]))
 (.region 0 [
 M 0 10 4,
 I 1 11 (oK .add 10 1),
 M 2 4 11] false [1, 3, 4])))
def e2N : AC := .loop [1, 3, 4] e1X
def e2k : Fn := ⟨1, 22, [(2, none)],
 (.seq (.region 1 [
 I 0 1 (.box 0 (.t 0)),
 I 1 2 (.mv (kI 0))] false [1])
 (.seq (.region 0 [
 I 0 3 (.mv (kI 0))] false [1, 3])
 (.seq (.seq (.region 0 [
 I 0 4 (.mv (kI 0))] false [1, 3, 4])
 (.block 0 (e2N)))
 (.seq (.region 0 [
 M 0 21 3,
 M 1 2 21] false [2])
 (.ret))))), false⟩
def e1R : Fn := ⟨5, 26, [(10, none)],
 (.seq (.region 1 [
 I 0 5 (.box 0 (.t 0)),
 I 1 10 (.mv (kB false))] false [1, 2, 3, 4, 5])
 (.seq (.region 0 [
 I 0 11 (oS 10 5),
 M 1 12 2,
 M 2 13 3,
 M 3 14 4,
 I 4 15 (o4 148 11 12 13 14),
 M 5 16 15,
 U 6 17 16 (oS 10 5),
 U 7 18 16 (oM 1),
 U 8 19 16 (oM 2),
 U 9 20 16 (oM 3),
 U 10 21 16 (oM 4),
 U 11 22 16 (.call true (.f 149) [.t 17, .t 18, .t 19, .t 20, .t 21]),
 U 12 23 16 (.field 0 none (.t 22)),
 U 13 24 16 (oK .lss 23 0),
 I 14 25 (oO 16 24),
 M 15 10 25] false [10])
 (.ret))), false⟩
def e1w : AC :=
 (.seq (.seq (.region 0 [
 M 0 7 5,
 M 1 8 1,
 I 2 9 (oN 1 8),
 I 3 10 (.bin .lss (.t 7) (.t 9))] false [1, 2, 5, 10])
 (.cond (.t 10)
 (.skip)
 (.exit 0)))
 (.seq (.block 1 (.seq (.region 1 [
 M 0 13 1,
 M 1 14 5,
 I 2 15 (oI 2 13 14),
 I 3 16 (oS 2 15),
 I 4 6 (.alloc 0 [.int .i64 0, .int .i64 0]),
 J 5 (.store 2 (.t 6) (.t 16))] false [1, 2, 5, 6])
 (.seq (.seq (.region 0 [
 I 0 17 (oF 0 6),
 I 1 18 (oL 17),
 I 2 19 (oS 10 2),
 I 3 20 (o1 115 19),
 I 4 21 (oF 7 2),
 I 5 22 (oL 21),
 I 6 23 (oN 1 22),
 I 7 24 (oK .sub 23 1),
 I 8 25 (o3 29 18 20 24),
 I 9 26 (oU .not 25),
 M 10 27 26,
 U 11 28 27 (oS 10 2),
 U 12 29 27 (oF 1 6),
 U 13 30 27 (oL 29),
 U 14 31 27 (o2 157 28 30),
 U 15 32 27 (oU .not 31),
 I 16 33 (oO 27 32),
 M 17 34 33,
 U 18 35 34 (oF 8 2),
 U 19 36 34 (oL 35),
 U 20 37 34 (oF 1 6),
 U 21 38 34 (oL 37),
 U 22 39 34 (oF 0 6),
 U 23 40 34 (oL 39),
 U 24 41 34 (o3 159 36 38 40),
 I 25 42 (.pick (.t 34) (kB true) (.t 41))] true [1, 2, 5, 6, 42])
 (.cond (.t 42)
 (.seq (.region 0 [
 I 0 4 (.mv (kB false))] false [4])
 (.ret))
 (.skip)))
 (.seq (.region 0 [
 M 0 43 5,
 I 1 44 (oK .gtr 43 0),
 M 2 45 44,
 Y 3 46 45 (oF 0 6),
 Y 4 47 45 (oL 46),
 Y 5 48 45 (oM 1),
 Y 6 49 45 (oM 5),
 Y 7 50 45 (oK .sub 49 1),
 Y 8 51 45 (oI 2 48 50),
 Y 9 52 45 (oF 0 51),
 Y 10 53 45 (oL 52),
 Y 11 54 45 (oB .lss 47 53),
 Y 12 55 45 (oM 54),
 U 13 56 55 (oF 0 6),
 U 14 57 55 (oL 56),
 U 15 58 55 (oM 1),
 U 16 59 55 (oM 5),
 U 17 60 55 (oK .sub 59 1),
 U 18 61 55 (oI 2 58 60),
 U 19 62 55 (oF 0 61),
 U 20 63 55 (oL 62),
 U 21 64 55 (oB .eql 57 63),
 U 22 65 55 (oM 64),
 Y 23 66 65 (oF 1 6),
 Y 24 67 65 (oL 66),
 Y 25 68 65 (oM 1),
 Y 26 69 65 (oM 5),
 Y 27 70 65 (oK .sub 69 1),
 Y 28 71 65 (oI 2 68 70),
 Y 29 72 65 (oF 1 71),
 Y 30 73 65 (oL 72),
 Y 31 74 65 (oB .leq 67 73),
 U 32 75 55 (oA 65 74),
 Y 33 76 45 (oO 55 75),
 I 34 77 (.pick (.t 45) (.t 76) (kB false))] true [1, 2, 5, 77])
 (.cond (.t 77)
 (.seq (.region 0 [
 I 0 4 (.mv (kB false))] false [4])
 (.ret))
 (.skip))))))
 (.region 0 [
 M 0 11 5,
 I 1 12 (oK .add 11 1),
 M 2 5 12] false [1, 2, 5])))
def e2r : AC := .loop [1, 2, 5] e1w
def e1S : Fn := ⟨2, 78, [(4, none)],
 (.seq (.region 1 [
 I 0 2 (.box 0 (.t 0)),
 I 1 4 (.mv (kB false))] false [1, 2])
 (.seq (.seq (.region 0 [
 I 0 5 (.mv (kI 0))] false [1, 2, 5])
 (.block 0 (e2r)))
 (.seq (.region 0 [
 I 0 4 (.mv (kB true))] false [4])
 (.ret)))), false⟩
def e2g : Fn := ⟨2, 11, [(4, none)],
 (.seq (.region 1 [
 I 0 2 (.box 0 (.t 0)),
 I 1 4 (.mv (.k (.sc (.sl .nil 2 []))))] false [1, 2])
 (.seq (.region 0 [
 I 0 5 (.bslice 2 0 [.int .i64 0, .int .i64 0] []),
 I 1 6 (oF 8 2),
 I 2 7 (oL 6),
 I 3 8 (.append 2 (.tk 5) (.t 7)),
 M 4 9 1,
 I 5 10 (.append 2 (.tk 8) (.t 9)),
 I 6 4 (.mv (.tk 10))] false [4])
 (.ret))), false⟩
def e1G : AC :=
 (.seq (.seq (.region 0 [
 M 0 17 7,
 I 1 18 (oF 0 2),
 I 2 19 (oL 18),
 I 3 20 (oN 1 19),
 I 4 21 (.bin .lss (.t 17) (.t 20))] false [1, 2, 5, 6, 7, 21])
 (.cond (.t 21)
 (.skip)
 (.exit 2)))
 (.seq (.block 3 (.seq (.region 0 [
 M 0 24 1,
 M 1 25 7,
 M 2 26 5,
 I 3 27 (o3 159 24 25 26),
 I 4 28 (.un .not (.t 27))] false [1, 2, 5, 6, 7, 28])
 (.cond (.t 28)
 (.region 0 [
 M 0 29 6,
 I 1 30 (oK .add 29 1),
 M 2 6 30] false [1, 2, 5, 6, 7])
 (.skip))))
 (.region 0 [
 M 0 22 7,
 I 1 23 (oK .add 22 1),
 M 2 7 23] false [1, 2, 5, 6, 7])))
def e2q : AC := .loop [1, 2, 5, 6, 7] e1G
def e1F : AC :=
 (.seq (.seq (.region 0 [
 M 0 10 5,
 I 1 11 (oF 7 2),
 I 2 12 (oL 11),
 I 3 13 (oN 1 12),
 I 4 14 (.bin .lss (.t 10) (.t 13))] false [1, 2, 5, 14])
 (.cond (.t 14)
 (.skip)
 (.exit 0)))
 (.seq (.block 1 (.seq (.region 0 [
 I 0 6 (.mv (kI 0))] false [1, 2, 5, 6])
 (.seq (.seq (.region 0 [
 I 0 7 (.mv (kI 0))] false [1, 2, 5, 6, 7])
 (.block 2 (e2q)))
 (.seq (.region 0 [
 M 0 31 6,
 I 1 32 (oF 7 2),
 I 2 33 (oL 32),
 M 3 34 5,
 I 4 35 (oI 3 33 34),
 I 5 36 (oF 2 35),
 I 6 37 (oL 36),
 I 7 38 (.bin .lss (.t 31) (.t 37))] false [1, 2, 5, 38])
 (.cond (.t 38)
 (.seq (.region 0 [
 I 0 4 (.mv (kB false))] false [4])
 (.ret))
 (.skip))))))
 (.region 0 [
 M 0 15 5,
 I 1 16 (oK .add 15 1),
 M 2 5 16] false [1, 2, 5])))
def e2p : AC := .loop [1, 2, 5] e1F
def e1Q : Fn := ⟨2, 39, [(4, none)],
 (.seq (.region 1 [
 I 0 2 (.box 0 (.t 0)),
 I 1 4 (.mv (kB false))] false [1, 2])
 (.seq (.seq (.region 0 [
 I 0 8 (oS 10 2),
 I 1 9 (o1 115 8),
 M 2 5 9] false [1, 2, 5])
 (.block 0 (e2p)))
 (.seq (.region 0 [
 I 0 4 (.mv (kB true))] false [4])
 (.ret)))), false⟩
def e1M : AC :=
 (.seq (.seq (.region 0 [
 M 0 12 9,
 I 1 13 (oF 7 4),
 I 2 14 (oL 13),
 I 3 15 (oN 1 14),
 I 4 16 (.bin .lss (.t 12) (.t 15))] false [1, 2, 3, 4, 9, 16])
 (.cond (.t 16)
 (.skip)
 (.exit 0)))
 (.seq (.block 1 (.seq (.region 0 [
 I 0 19 (oS 10 4),
 M 1 20 1,
 M 2 21 2,
 M 3 22 9,
 M 4 23 3,
 I 5 24 (.call true (.f 116) [.t 19, .t 20, .t 21, .t 22, .t 23])] false [1, 2, 3, 4, 9, 24])
 (.cond (.t 24)
 (.seq (.region 0 [
 I 0 8 (.mv (kB false))] false [8])
 (.ret))
 (.skip))))
 (.region 0 [
 M 0 17 9,
 I 1 18 (oK .add 17 1),
 M 2 9 18] false [1, 2, 3, 4, 9])))
def e2z : AC := .loop [1, 2, 3, 4, 9] e1M
def e1V : Fn := ⟨4, 25, [(8, none)],
 (.seq (.region 1 [
 I 0 4 (.box 0 (.t 0)),
 I 1 8 (.mv (kB false))] false [1, 2, 3, 4])
 (.seq (.seq (.region 0 [
 I 0 10 (oS 10 4),
 I 1 11 (o1 115 10),
 M 2 9 11] false [1, 2, 3, 4, 9])
 (.block 0 (e2z)))
 (.seq (.region 0 [
 I 0 8 (.mv (kB true))] false [8])
 (.ret)))), false⟩
def e1A : AC :=
 (.seq (.seq (.region 0 [
 M 0 23 11,
 I 1 24 (oF 7 3),
 I 2 25 (oL 24),
 I 3 26 (oN 1 25),
 I 4 27 (.bin .lss (.t 23) (.t 26))] false [1, 2, 3, 7, 8, 9, 10, 11, 27])
 (.cond (.t 27)
 (.skip)
 (.exit 2)))
 (.seq (.block 3 (.seq (.region 0 [
 M 0 30 8,
 M 1 31 11,
 I 2 32 (.call true (.f 65) [.t 30, .t 31])] false [1, 2, 3, 7, 8, 9, 10, 11, 32])
 (.cond (.t 32)
 (.seq (.region 0 [
 M 0 33 10,
 M 1 34 33,
 Y 2 35 34 (oM 11),
 Y 3 36 34 (oS 10 3),
 Y 4 37 34 (o1 115 36),
 Y 5 38 34 (oB .geq 35 37),
 I 6 39 (oA 34 38),
 M 7 40 39,
 Y 8 41 40 (oF 8 3),
 Y 9 42 40 (oL 41),
 Y 10 43 40 (oM 2),
 Y 11 44 40 (oM 11),
 Y 12 45 40 (o3 159 42 43 44),
 Y 13 46 40 (oU .not 45),
 I 14 47 (oA 40 46),
 M 15 10 47] false [1, 2, 3, 7, 8, 9, 10, 11])
 (.region 0 [
 I 0 48 (.mv (.tk 9)),
 M 1 49 11,
 M 2 50 2,
 I 3 51 (.build [.int .i64 0, .int .i64 0] [(0, 1, .t 49), (1, 1, .t 50)]),
 I 4 52 (.bslice 2 1 [.int .i64 0, .int .i64 0] [(0, .t 51)]),
 I 5 53 (.append 2 (.tk 48) (.t 52)),
 I 6 9 (.mv (.tk 53))] false [1, 2, 3, 7, 8, 9, 10, 11]))
 (.skip))))
 (.region 0 [
 M 0 28 11,
 I 1 29 (oK .add 28 1),
 M 2 11 29] false [1, 2, 3, 7, 8, 9, 10, 11])))
def e2B : AC := .loop [1, 2, 3, 7, 8, 9, 10, 11] e1A
def e1N : AC :=
 (.seq (.seq (.region 0 [
 M 0 54 12,
 M 1 55 7,
 I 2 56 (oN 1 55),
 I 3 57 (.bin .lss (.t 54) (.t 56))] false [1, 2, 3, 7, 8, 9, 10, 12, 57])
 (.cond (.t 57)
 (.skip)
 (.exit 4)))
 (.seq (.block 5 (.region 0 [
 M 0 60 10,
 M 1 61 60,
 Y 2 62 61 (oM 7),
 Y 3 63 61 (oM 12),
 Y 4 64 61 (oI 1 62 63),
 Y 5 65 61 (oL 64),
 Y 6 66 61 (oM 8),
 Y 7 67 61 (oB .and 65 66),
 Y 8 68 61 (oM 7),
 Y 9 69 61 (oM 12),
 Y 10 70 61 (oI 1 68 69),
 Y 11 71 61 (oL 70),
 Y 12 72 61 (oB .neq 67 71),
 I 13 73 (oA 61 72),
 M 14 10 73] true [1, 2, 3, 7, 8, 9, 10, 12]))
 (.region 0 [
 M 0 58 12,
 I 1 59 (oK .add 58 1),
 M 2 12 59] false [1, 2, 3, 7, 8, 9, 10, 12])))
def e2C : AC := .loop [1, 2, 3, 7, 8, 9, 10, 12] e1N
def e1z : AC :=
 (.seq (.seq (.region 0 [
 M 0 14 8,
 I 1 15 (oF 7 3),
 I 2 16 (oL 15),
 I 3 17 (oN 1 16),
 I 4 18 (.bin .shl (kI 1) (.t 17)),
 I 5 19 (.bin .lss (.t 14) (.t 18))] false [1, 2, 3, 7, 8, 19])
 (.cond (.t 19)
 (.skip)
 (.exit 0)))
 (.seq (.block 1 (.seq (.region 0 [
 I 0 22 (.bslice 2 0 [.int .i64 0, .int .i64 0] []),
 M 1 9 22,
 I 2 10 (.mv (kB true))] false [1, 2, 3, 7, 8, 9, 10])
 (.seq (.seq (.region 0 [
 I 0 11 (.mv (kI 0))] false [1, 2, 3, 7, 8, 9, 10, 11])
 (.block 2 (e2B)))
 (.seq (.seq (.region 0 [
 I 0 12 (.mv (kI 0))] false [1, 2, 3, 7, 8, 9, 10, 12])
 (.block 4 (e2C)))
 (.seq (.region 0 [
 M 0 74 10,
 M 1 75 74,
 Y 2 76 75 (oS 10 3),
 Y 3 77 75 (oM 1),
 Y 4 78 75 (oM 2),
 Y 5 79 75 (oS 10 3),
 Y 6 80 75 (oM 9),
 Y 7 81 75 (o2 124 79 80),
 Y 8 82 75 (o4 126 76 77 78 81),
 I 9 83 (.pick (.t 75) (.t 82) (kB false))] true [1, 2, 3, 7, 8, 83])
 (.cond (.t 83)
 (.region 0 [
 I 0 84 (.mv (.tk 7)),
 M 1 85 8,
 I 2 86 (.bslice 1 1 [.int .i64 0] [(0, .t 85)]),
 I 3 87 (.append 1 (.tk 84) (.t 86)),
 I 4 7 (.mv (.tk 87))] false [1, 2, 3, 7, 8])
 (.skip)))))))
 (.region 0 [
 M 0 20 8,
 I 1 21 (oK .add 20 1),
 M 2 8 21] false [1, 2, 3, 7, 8])))
def e2A : AC := .loop [1, 2, 3, 7, 8] e1z
def e2f : Fn := ⟨3, 89, [(6, none)],
 (.seq (.region 1 [
 I 0 3 (.box 0 (.t 0)),
 I 1 6 (.mv (.k (.sc (.sl .nil 1 []))))] false [1, 2, 3])
 (.seq (.region 0 [
 I 0 13 (.bslice 1 0 [.int .i64 0] []),
 M 1 7 13] false [1, 2, 3, 7])
 (.seq (.seq (.region 0 [
 I 0 8 (.mv (kI 0))] false [1, 2, 3, 7, 8])
 (.block 0 (e2A)))
 (.seq (.region 0 [
 M 0 88 7,
 M 1 6 88] false [6])
 (.ret))))), false⟩
def e1y : AC :=
 (.seq (.seq (.region 0 [
 M 0 34 12,
 M 1 35 11,
 I 2 36 (oN 1 35),
 I 3 37 (.bin .lss (.t 34) (.t 36))] false [1, 2, 3, 9, 10, 11, 12, 37])
 (.cond (.t 37)
 (.skip)
 (.exit 0)))
 (.seq (.block 1 (.seq (.region 0 [
 I 0 41 (oS 10 3),
 M 1 42 1,
 M 2 43 2,
 M 3 44 11,
 M 4 45 12,
 I 5 46 (oI 1 44 45),
 I 6 47 (oL 46),
 I 7 48 (o2 81 43 47),
 I 8 49 (o3 133 41 42 48),
 M 9 40 49,
 I 10 50 (oE 40 0),
 I 11 51 (oE 40 1),
 M 12 13 50,
 M 13 14 51] true [1, 2, 3, 9, 10, 11, 12, 13, 14])
 (.seq (.region 0 [
 M 0 52 14,
 M 1 53 52,
 Y 2 54 53 (oM 10),
 Y 3 55 53 (oU .not 54),
 Y 4 56 53 (oM 55),
 U 5 57 56 (oM 13),
 U 6 58 56 (oM 9),
 U 7 59 56 (o2 166 57 58),
 Y 8 60 53 (oO 56 59),
 I 9 61 (.pick (.t 53) (.t 60) (kB false))] false [1, 2, 3, 9, 10, 11, 12, 13, 61])
 (.cond (.t 61)
 (.region 0 [
 M 0 62 13,
 M 1 9 62,
 I 2 10 (.mv (kB true))] false [1, 2, 3, 9, 10, 11, 12])
 (.skip)))))
 (.region 0 [
 M 0 38 12,
 I 1 39 (oK .add 38 1),
 M 2 12 39] false [1, 2, 3, 9, 10, 11, 12])))
def e2y : AC := .loop [1, 2, 3, 9, 10, 11, 12] e1y
def e1U : Fn := ⟨3, 65, [(6, none), (7, none)],
 (.seq (.region 1 [
 I 0 3 (.box 0 (.t 0)),
 I 1 6 (.mv (.k (.sc (.sl .nil 2 [])))),
 I 2 7 (.mv (kB false))] false [1, 2, 3])
 (.seq (.seq (.region 0 [
 M 0 15 2,
 I 1 16 (oN 1 15),
 M 2 17 1,
 I 3 18 (oN 1 17),
 I 4 19 (.bin .eql (.t 16) (.t 18))] false [1, 2, 3, 19])
 (.cond (.t 19)
 (.seq (.region 0 [
 I 0 20 (oS 10 3),
 M 1 21 2,
 I 2 22 (o2 165 20 21),
 M 3 8 22] false [3, 8])
 (.seq (.region 0 [
 M 0 23 8,
 I 1 24 (oS 10 3),
 I 2 25 (oS 10 3),
 M 3 26 8,
 I 4 27 (o2 124 25 26),
 I 5 28 (o2 125 24 27),
 M 6 6 23,
 M 7 7 28] true [6, 7])
 (.ret)))
 (.skip)))
 (.seq (.region 0 [
 I 0 9 (.mv (.k (.sc (.sl .nil 2 []))))] false [1, 2, 3, 9])
 (.seq (.region 0 [
 I 0 10 (.mv (kB false))] false [1, 2, 3, 9, 10])
 (.seq (.region 0 [
 M 0 29 1,
 M 1 30 2,
 I 2 31 (oN 1 30),
 I 3 32 (oI 1 29 31),
 I 4 33 (oL 32),
 M 5 11 33] false [1, 2, 3, 9, 10, 11])
 (.seq (.seq (.region 0 [
 I 0 12 (.mv (kI 0))] false [1, 2, 3, 9, 10, 11, 12])
 (.block 0 (e2y)))
 (.seq (.region 0 [
 M 0 63 9,
 M 1 64 10,
 M 2 6 63,
 M 3 7 64] false [6, 7])
 (.ret)))))))), false⟩
def e1B : AC :=
 (.seq (.seq (.region 0 [
 M 0 14 9,
 M 1 15 2,
 I 2 16 (.bin .leq (.t 14) (.t 15))] false [1, 2, 3, 4, 9, 16])
 (.cond (.t 16)
 (.skip)
 (.exit 0)))
 (.seq (.block 1 (.seq (.region 0 [
 I 0 19 (oF 7 4),
 I 1 20 (oL 19),
 M 2 21 9,
 I 3 22 (oI 3 20 21),
 I 4 23 (oF 1 22),
 I 5 24 (oL 23),
 I 6 25 (oK .eql 24 0),
 M 7 26 25,
 U 8 27 26 (oM 3),
 U 9 28 26 (oM 1),
 U 10 29 26 (oM 9),
 U 11 30 26 (o3 159 27 28 29),
 I 12 31 (.pick (.t 26) (kB true) (.t 30))] false [1, 2, 3, 4, 9, 31])
 (.cond (.t 31)
 (.seq (.region 0 [
 I 0 8 (.mv (kB false))] false [8])
 (.ret))
 (.skip))))
 (.region 0 [
 M 0 17 9,
 I 1 18 (oK .add 17 1),
 M 2 9 18] false [1, 2, 3, 4, 9])))
def e2v : AC := .loop [1, 2, 3, 4, 9] e1B
def e1L : Fn := ⟨4, 32, [(8, none)],
 (.seq (.region 1 [
 I 0 4 (.box 0 (.t 0)),
 I 1 8 (.mv (kB false))] false [1, 2, 3, 4])
 (.seq (.seq (.region 0 [
 M 0 10 2,
 I 1 11 (.bin .lss (.t 10) (kI 2))] false [1, 2, 3, 4, 11])
 (.cond (.t 11)
 (.seq (.region 0 [
 I 0 8 (.mv (kB false))] false [8])
 (.ret))
 (.skip)))
 (.seq (.seq (.region 0 [
 M 0 12 2,
 I 1 13 (oK .sub 12 2),
 M 2 9 13] false [1, 2, 3, 4, 9])
 (.block 0 (e2v)))
 (.seq (.region 0 [
 I 0 8 (.mv (kB true))] false [8])
 (.ret))))), false⟩
def e1E : AC :=
 (.seq (.seq (.region 0 [
 M 0 15 7,
 M 1 16 1,
 I 2 17 (oN 1 16),
 I 3 18 (.bin .lss (.t 15) (.t 17))] false [1, 2, 5, 6, 7, 18])
 (.cond (.t 18)
 (.skip)
 (.exit 2)))
 (.seq (.block 3 (.seq (.region 0 [
 M 0 21 1,
 M 1 22 7,
 I 2 23 (oI 1 21 22),
 I 3 24 (oL 23),
 M 4 25 6,
 I 5 26 (.call true (.f 65) [.t 24, .t 25])] false [1, 2, 5, 6, 7, 26])
 (.cond (.t 26)
 (.region 0 [
 I 0 27 (.mv (.tk 5)),
 M 1 28 6,
 M 2 29 7,
 I 3 30 (.build [.int .i64 0, .int .i64 0] [(0, 1, .t 28), (1, 1, .t 29)]),
 I 4 31 (.bslice 2 1 [.int .i64 0, .int .i64 0] [(0, .t 30)]),
 I 5 32 (.append 2 (.tk 27) (.t 31)),
 I 6 5 (.mv (.tk 32))] false [1, 2, 5, 6, 7])
 (.skip))))
 (.region 0 [
 M 0 19 7,
 I 1 20 (oK .add 19 1),
 M 2 7 20] false [1, 2, 5, 6, 7])))
def e2o : AC := .loop [1, 2, 5, 6, 7] e1E
def e1P : AC :=
 (.seq (.seq (.region 0 [
 M 0 8 6,
 I 1 9 (oF 7 2),
 I 2 10 (oL 9),
 I 3 11 (oN 1 10),
 I 4 12 (.bin .lss (.t 8) (.t 11))] false [1, 2, 5, 6, 12])
 (.cond (.t 12)
 (.skip)
 (.exit 0)))
 (.seq (.block 1 (.seq (.region 0 [
 I 0 7 (.mv (kI 0))] false [1, 2, 5, 6, 7])
 (.block 2 (e2o))))
 (.region 0 [
 M 0 13 6,
 I 1 14 (oK .add 13 1),
 M 2 6 14] false [1, 2, 5, 6])))
def e2n : AC := .loop [1, 2, 5, 6] e1P
def e2c : Fn := ⟨2, 34, [(4, none)],
 (.seq (.region 1 [
 I 0 2 (.box 0 (.t 0)),
 I 1 4 (.mv (.k (.sc (.sl .nil 2 []))))] false [1, 2])
 (.seq (.region 0 [
 I 0 5 (.mv (.k (.sc (.sl .nil 2 []))))] false [1, 2, 5])
 (.seq (.seq (.region 0 [
 I 0 6 (.mv (kI 0))] false [1, 2, 5, 6])
 (.block 0 (e2n)))
 (.seq (.region 0 [
 M 0 33 5,
 M 1 4 33] false [4])
 (.ret))))), false⟩
def e2e : Fn := ⟨2, 11, [(4, none)],
 (.seq (.region 0 [
 I 0 4 (.mv (.k (.sc (.sl .nil 1 []))))] false [0, 1])
 (.seq (.region 0 [
 I 0 5 (.bslice 1 0 [.int .i64 0] []),
 M 1 6 0,
 I 2 7 (.append 1 (.tk 5) (.t 6)),
 M 3 8 1,
 I 4 9 (.bslice 1 1 [.int .i64 0] [(0, .t 8)]),
 I 5 10 (.append 1 (.tk 7) (.t 9)),
 I 6 4 (.mv (.tk 10))] false [4])
 (.ret))), false⟩
def e1x : AC :=
 (.seq (.seq (.region 0 [
 M 0 16 5,
 M 1 17 0,
 I 2 18 (oN 1 17),
 I 3 19 (.bin .lss (.t 16) (.t 18))] false [0, 1, 5, 19])
 (.cond (.t 19)
 (.skip)
 (.exit 0)))
 (.seq (.block 1 (.seq (.region 0 [
 M 0 22 0,
 M 1 23 5,
 I 2 24 (oI 2 22 23),
 I 3 25 (oS 2 24),
 M 4 26 1,
 M 5 27 5,
 I 6 28 (oI 2 26 27),
 I 7 29 (oS 2 28),
 I 8 30 (.eqf true ⟨true, [1, 1]⟩ (.t 25) (.t 29))] true [0, 1, 5, 30])
 (.cond (.t 30)
 (.seq (.region 0 [
 M 0 31 0,
 M 1 32 5,
 I 2 33 (oI 2 31 32),
 I 3 34 (oF 0 33),
 I 4 35 (oL 34),
 M 5 36 1,
 M 6 37 5,
 I 7 38 (oI 2 36 37),
 I 8 39 (oF 0 38),
 I 9 40 (oL 39),
 I 10 41 (oB .lss 35 40),
 M 11 42 41,
 U 12 43 42 (oM 0),
 U 13 44 42 (oM 5),
 U 14 45 42 (oI 2 43 44),
 U 15 46 42 (oF 0 45),
 U 16 47 42 (oL 46),
 U 17 48 42 (oM 1),
 U 18 49 42 (oM 5),
 U 19 50 42 (oI 2 48 49),
 U 20 51 42 (oF 0 50),
 U 21 52 42 (oL 51),
 U 22 53 42 (oB .eql 47 52),
 U 23 54 42 (oM 53),
 Y 24 55 54 (oM 0),
 Y 25 56 54 (oM 5),
 Y 26 57 54 (oI 2 55 56),
 Y 27 58 54 (oF 1 57),
 Y 28 59 54 (oL 58),
 Y 29 60 54 (oM 1),
 Y 30 61 54 (oM 5),
 Y 31 62 54 (oI 2 60 61),
 Y 32 63 54 (oF 1 62),
 Y 33 64 54 (oL 63),
 Y 34 65 54 (oB .lss 59 64),
 U 35 66 42 (oA 54 65),
 I 36 67 (oO 42 66),
 M 37 4 67] true [4])
 (.ret))
 (.skip))))
 (.region 0 [
 M 0 20 5,
 I 1 21 (oK .add 20 1),
 M 2 5 21] false [0, 1, 5])))
def e2s : AC := .loop [0, 1, 5] e1x
def e1H : Fn := ⟨2, 68, [(4, none)],
 (.seq (.region 0 [
 I 0 4 (.mv (kB false))] false [0, 1])
 (.seq (.seq (.region 0 [
 M 0 6 0,
 I 1 7 (oN 1 6),
 M 2 8 1,
 I 3 9 (oN 1 8),
 I 4 10 (.bin .neq (.t 7) (.t 9))] false [0, 1, 10])
 (.cond (.t 10)
 (.seq (.region 0 [
 M 0 11 0,
 I 1 12 (oN 1 11),
 M 2 13 1,
 I 3 14 (oN 1 13),
 I 4 15 (oB .lss 12 14),
 M 5 4 15] false [4])
 (.ret))
 (.skip)))
 (.seq (.seq (.region 0 [
 I 0 5 (.mv (kI 0))] false [0, 1, 5])
 (.block 0 (e2s)))
 (.seq (.region 0 [
 I 0 4 (.mv (kB false))] false [4])
 (.ret))))), false⟩
end Go.Pm.Ac
namespace Go.Pm
open Ac
class P04 (Γ : Env) : Prop where
 f23 : Γ.fn 23 = some a3l
 f29 : Γ.fn 29 = some a2w
 f30 : Γ.fn 30 = some a4A
 f33 : Γ.fn 33 = some a3N
 f49 : Γ.fn 49 = some a2v
 f65 : Γ.fn 65 = some d2y
 f75 : Γ.fn 75 = some d5j
 f76 : Γ.fn 76 = some a2Q
 f83 : Γ.fn 83 = some a3r
 f101 : Γ.fn 101 = some a5i
 f103 : Γ.fn 103 = some a6B
 f105 : Γ.fn 105 = some a1F
 f107 : Γ.fn 107 = some a4U
 f109 : Γ.fn 109 = some a3x
 f110 : Γ.fn 110 = some a3M
 f111 : Γ.fn 111 = some a3C
 f112 : Γ.fn 112 = some a7d
 f113 : Γ.fn 113 = some a3V
 f114 : Γ.fn 114 = some d4I
 f117 : Γ.fn 117 = some a6w
 f118 : Γ.fn 118 = some a5M
 f119 : Γ.fn 119 = some d4H
 f121 : Γ.fn 121 = some a4h
 f122 : Γ.fn 122 = some a4I
 f123 : Γ.fn 123 = some a2j
 f127 : Γ.fn 127 = some a4f
 f128 : Γ.fn 128 = some a5L
 f130 : Γ.fn 130 = some a0X
 f131 : Γ.fn 131 = some a5u
 f134 : Γ.fn 134 = some a4W
 f135 : Γ.fn 135 = some a2u
 f136 : Γ.fn 136 = some a4e
 f137 : Γ.fn 137 = some a2i
 f138 : Γ.fn 138 = some a1Z
 f139 : Γ.fn 139 = some a4c
 f140 : Γ.fn 140 = some a4b
 f141 : Γ.fn 141 = some a2t
 f142 : Γ.fn 142 = some a4z
 f143 : Γ.fn 143 = some a4l
 f144 : Γ.fn 144 = some a5P
 f145 : Γ.fn 145 = some a0N
 f146 : Γ.fn 146 = some a3U
 f147 : Γ.fn 147 = some d5d
 f149 : Γ.fn 149 = some d5g
 f150 : Γ.fn 150 = some a5Q
 f151 : Γ.fn 151 = some a5O
 f152 : Γ.fn 152 = some a6G
 f153 : Γ.fn 153 = some a5b
 f154 : Γ.fn 154 = some a5N
 f155 : Γ.fn 155 = some a1m
 f156 : Γ.fn 156 = some d5e
 f157 : Γ.fn 157 = some d5c
 f158 : Γ.fn 158 = some d4G
 f159 : Γ.fn 159 = some d5h
 f160 : Γ.fn 160 = some a5a
 f161 : Γ.fn 161 = some a5J
 f162 : Γ.fn 162 = some a1v
 f163 : Γ.fn 163 = some cmp_Compare_int
 f164 : Γ.fn 164 = some a5n
 f167 : Γ.fn 167 = some a4H
 f168 : Γ.fn 168 = some a4s
 f169 : Γ.fn 169 = some a4J
 f170 : Γ.fn 170 = some a1d
 f171 : Γ.fn 171 = some a3m
 f172 : Γ.fn 172 = some a3W
 f173 : Γ.fn 173 = some d5b
 f174 : Γ.fn 174 = some d5f
 f175 : Γ.fn 175 = some a1x
 f176 : Γ.fn 176 = some a0D
 f177 : Γ.fn 177 = some cmp_isNaN_int
 f178 : Γ.fn 178 = some a1c
 f181 : Γ.fn 181 = some d7O
 f183 : Γ.fn 183 = some d7L
 f185 : Γ.fn 185 = some d7P
 f187 : Γ.fn 187 = some a0P
 f188 : Γ.fn 188 = some a4G
 f189 : Γ.fn 189 = some a3S
 f190 : Γ.fn 190 = some a3u
 f195 : Γ.fn 195 = some d7F
 f196 : Γ.fn 196 = some a1O
 f197 : Γ.fn 197 = some a5v
 f198 : Γ.fn 198 = some d7R
 f199 : Γ.fn 199 = some a4g
 f200 : Γ.fn 200 = some a3n
 f231 : Γ.fn 231 = some a1a
 f81 : Γ.fn 81 = some e2e
 f102 : Γ.fn 102 = some e1K
 f104 : Γ.fn 104 = some e1Z
 f106 : Γ.fn 106 = some e1D
 f108 : Γ.fn 108 = some e1O
 f115 : Γ.fn 115 = some e2k
 f116 : Γ.fn 116 = some e1R
 f120 : Γ.fn 120 = some e1S
 f124 : Γ.fn 124 = some e2g
 f125 : Γ.fn 125 = some e1Q
 f126 : Γ.fn 126 = some e1V
 f132 : Γ.fn 132 = some e2f
 f133 : Γ.fn 133 = some e1U
 f148 : Γ.fn 148 = some e1L
 f165 : Γ.fn 165 = some e2c
 f166 : Γ.fn 166 = some e1H
 f201 : Γ.fn 201 = some e1Y
end Go.Pm
namespace Go.Pm
inductive Tag {α : Type} (a : α) : Type where
 | mk
inductive Tag2 {α β : Type} (a : α) (b : β) : Type where
 | mk
inductive Tag3 {α β γ : Type} (a : α) (b : β) (c : γ) : Type where
 | mk
def andThen {β : Type} (r : Option (Ex × St)) (Q : Ex -> St -> Option β) : Option β :=
 match r with
 | some (e, s) => Q e s
 | none => none
noncomputable def E {β : Type} (Γ : Env) (c : AC) (s : St) (Q : Ex -> St -> Option β) (_ : Tag2 c Q := .mk) : Option β := andThen (X Γ c s) Q
theorem nrfl {α : Sort _} {a b : α} (h : a = b) : a = b := h
noncomputable def P1 {β : Type} (Γ : Env) (base : Nat) (dst : Option Nat) (o : Op) (s : St) (k : St -> Option β) (_ : Tag3 dst o k := .mk) : Option β :=
 match perform (K Γ) base s.h (rd Γ s.t) o with
 | none => none
 | some (v, h) => k { t := put1 dst v (drop o.takes s.t), h := h }
noncomputable def R0 {β : Type} (Γ : Env) (base : Nat) : List Oper -> St -> (St -> Option β) -> Option β
 | [], s, k => k s
 | o :: os, s, k => match o.guard with
  | none => P1 Γ base o.dst o.op s fun s => R0 Γ base os s k
  | some (g, w) => match get s.t g with
   | .sc (.bool b) => if b = w then P1 Γ base o.dst o.op { t := (g, .sc (.bool w)) :: s.t, h := s.h } fun s => R0 Γ base os s k else R0 Γ base os { t := put1 o.dst (.tup []) ((g, .sc (.bool !w)) :: s.t), h := s.h } k
   | .tup [] => R0 Γ base os { t := put1 o.dst (.tup []) s.t, h := s.h } k
   | _ => none
noncomputable def R {β : Type} (Γ : Env) (base : Nat) (os : List Oper) (s : St) (k : St -> Option β) (_ : Tag2 os k := .mk) : Option β := R0 Γ base os s k
def Same (s s' : St) : Prop := (∀ i, get s.t i = get s'.t i) /\ s.h = s'.h
theorem Same.refl (s : St) : Same s s := ⟨fun _ => rfl, rfl⟩
theorem Same.rd {Γ : Env} {s s' : St} (h : Same s s') (x : Rand) : rd Γ s.t x = rd Γ s'.t x := by
 cases x <;> simp only [Pm.rd] <;> rw [h.1]
theorem Same.put {s s' : St} (h : Same s s') (d : Option Nat) (v : V) (k : List Obj) : Same { t := put1 d v s.t, h := k } { t := put1 d v s'.t, h := k } := by
 refine ⟨fun i => ?_, rfl⟩
 cases d with
 | none => exact h.1 i
 | some d => simp only [put1, get]; rw [h.1]
theorem Same.drop {s s' : St} (h : Same s s') : ∀ (l : List Nat) (k : List Obj), Same { t := drop l s.t, h := k } { t := drop l s'.t, h := k }
 | [], k => ⟨h.1, rfl⟩
 | j :: l, k => by
  have : Same { t := (j, (get s.t j).a0r) :: s.t, h := k } { t := (j, (get s'.t j).a0r) :: s'.t, h := k } := ⟨fun i => by simp only [get]; rw [h.1, h.1], rfl⟩
  exact Same.drop this l k
theorem Same.learn {s : St} {g : Nat} {v : V} (h : get s.t g = v) : Same s { t := (g, v) :: s.t, h := s.h } := ⟨fun i => by
 simp only [get]
 split
 ·rename_i e; subst e; exact h
 ·rfl, rfl⟩
theorem Same.put' {s s' : St} (h : Same s s') (d : Option Nat) (v : V) (l : List Nat) (k : List Obj) : Same { t := put1 d v (Pm.drop l s.t), h := k } { t := put1 d v (Pm.drop l s'.t), h := k } :=
 (h.drop l k).put d v k
theorem a7D {β : Type} {Γ : Env} {base : Nat} {d : Option Nat} {o : Op} {s s' : St} {k : St -> Option β} (hk : ∀ s s', Same s s' -> k s = k s') (h : Same s s') : P1 Γ base d o s k = P1 Γ base d o s' k := by
 have hp : perform (K Γ) base s.h (rd Γ s.t) o = perform (K Γ) base s'.h (rd Γ s'.t) o := by
  rw [h.2]; exact congrArg (fun r => perform (K Γ) base s'.h r o) (funext fun x => h.rd x)
 unfold P1
 rw [hp]
 cases perform (K Γ) base s'.h (rd Γ s'.t) o with
 | none => rfl
 | some q => exact hk _ _ (h.put' _ _ _ _)
theorem a8E {β : Type} {Γ : Env} {base : Nat} : ∀ {os : List Oper} {s s' : St} {k : St -> Option β}, (∀ s s', Same s s' -> k s = k s') -> Same s s' -> R0 Γ base os s k = R0 Γ base os s' k
 | [], s, s', k, hk, h => hk _ _ h
 | o :: os, s, s', k, hk, h => by
  unfold R0
  cases o.guard with
  | none => exact a7D (fun _ _ h => a8E hk h) h
  | some p =>
   obtain ⟨g, w⟩ := p
   have lrn : ∀ v, Same { t := (g, v) :: s.t, h := s.h } { t := (g, v) :: s'.t, h := s'.h } := fun v => ⟨fun i => by simp only [get]; rw [h.1], h.2⟩
   simp only
   rw [h.1 g]
   cases get s'.t g with
   | sc c => cases c with
    | bool b =>
     simp only
     by_cases hb : b = w
     ·rw [if_pos hb, if_pos hb]; exact a7D (fun _ _ h => a8E hk h) (lrn _)
     ·rw [if_neg hb, if_neg hb]; refine a8E hk ?_; rw [h.2]; exact (lrn _).put _ _ _
    | _ => rfl
   | agg => rfl
   | tup vs => cases vs with
    | nil => simp only; refine a8E hk ?_; rw [h.2]; exact h.put _ _ _
    | cons => rfl
theorem b6o {β : Type} (Γ : Env) (base : Nat) {k : St -> Option β} (hk : ∀ s s', Same s s' -> k s = k s') : ∀ (os : List Oper) (s : St), (match steps Γ (K Γ) base os s with | some s => k s | none => none) = R0 Γ base os s k
 | [], s => rfl
 | o :: os, s => by
  have ih := b6o Γ base hk os
  have one : ∀ s0 : St, Same s s0 -> (match (match (match perform (K Γ) base s.h (rd Γ s.t) o.op with
   | none => none
   | some (v, h) => some ({ t := put1 o.dst v (drop o.op.takes s.t), h := h } : St)) with
   | none => none
   | some s => steps Γ (K Γ) base os s) with | some s => k s | none => none) = P1 Γ base o.dst o.op s0 fun s => R0 Γ base os s k := fun s0 h0 => by
   rw [← a7D (fun _ _ h => a8E hk h) h0]
   unfold P1
   cases perform (K Γ) base s.h (rd Γ s.t) o.op with
   | none => rfl
   | some q => exact ih _
  unfold steps R0
  cases hg : o.guard with
  | none =>
   simp only [step, wanted, hg]
   exact one s (.refl s)
  | some p =>
   obtain ⟨g, w⟩ := p
   simp only [step, wanted, hg]
   cases hv : get s.t g with
   | sc c =>
    cases c with
    | bool b =>
     by_cases hb : b = w
     ·subst hb
      simp only [beq_self_eq_true, if_true]
      exact one _ (.learn hv)
     ·have : (b == w) = false := by simpa using hb
      simp only [this, if_neg hb]
      refine (ih _).trans (a8E hk ?_)
      have : b = !w := by cases b <;> cases w <;> simp at hb ⊢
      exact (Same.learn (s := s) (g := g) (by rw [hv, this])).put _ _ _
    | _ => rfl
   | agg cs => rfl
   | tup vs =>
    cases vs with
    | nil => exact ih _
    | cons => rfl
noncomputable def RT0 {β : Type} (Γ : Env) (base : Nat) : List Oper -> St -> List (Nat × Acc) -> (St -> Option β) -> Option β
 | [], s, _, k => k s
 | o :: os, s, l, k => match o.guard with
  | none => if (o.conf.all fun j => l.all fun p => decide (p.1 ≠ j) || Acc.free p.2 (acc base (rd Γ s.t) o.op)) = true then P1 Γ base o.dst o.op s fun s' => RT0 Γ base os s' ((o.ix, acc base (rd Γ s.t) o.op) :: l) k else none
  | some (g, w) => match get s.t g with
   | .sc (.bool b) => if b = w then (if (o.conf.all fun j => l.all fun p => decide (p.1 ≠ j) || Acc.free p.2 (acc base (rd Γ s.t) o.op)) = true then P1 Γ base o.dst o.op { t := (g, .sc (.bool w)) :: s.t, h := s.h } fun s' => RT0 Γ base os s' ((o.ix, acc base (rd Γ s.t) o.op) :: l) k else none)
    else RT0 Γ base os { t := put1 o.dst (.tup []) ((g, .sc (.bool !w)) :: s.t), h := s.h } l k
   | .tup [] => RT0 Γ base os { t := put1 o.dst (.tup []) s.t, h := s.h } l k
   | _ => none
noncomputable def RTs {β : Type} (Γ : Env) (base : Nat) (os : List Oper) (s : St) (l : List (Nat × Acc)) (k : St -> Option β) (_ : Tag3 os l k := .mk) : Option β := RT0 Γ base os s l k
theorem a7E {β : Type} {Γ : Env} {base : Nat} : ∀ {os : List Oper} {s s' : St} {l : List (Nat × Acc)} {k : St -> Option β}, (∀ s s', Same s s' -> k s = k s') -> Same s s' -> RT0 Γ base os s l k = RT0 Γ base os s' l k
  | [], s, s', l, k, hk, h => hk _ _ h
  | o :: os, s, s', l, k, hk, h => by
    have hacc : acc base (rd Γ s.t) o.op = acc base (rd Γ s'.t) o.op := congrArg (fun r => acc base r o.op) (funext fun x => h.rd x)
    unfold RT0
    rw [hacc]
    cases o.guard with
    | none => simp only; split
              · exact a7D (fun _ _ h => a7E hk h) h
              · rfl
    | some p =>
      obtain ⟨g, w⟩ := p
      have lrn : ∀ v, Same { t := (g, v) :: s.t, h := s.h } { t := (g, v) :: s'.t, h := s'.h } := fun v => ⟨fun i => by simp only [get]; rw [h.1], h.2⟩
      simp only
      rw [h.1 g]
      cases get s'.t g with
      | sc c => cases c with
        | bool b =>
          simp only
          by_cases hb : b = w
          · rw [if_pos hb, if_pos hb]
            split
            · exact a7D (fun _ _ h => a7E hk h) (lrn _)
            · rfl
          · rw [if_neg hb, if_neg hb]; refine a7E hk ?_; rw [h.2]; exact (lrn _).put _ _ _
        | _ => rfl
      | agg => rfl
      | tup vs => cases vs with
        | nil => simp only; refine a7E hk ?_; rw [h.2]; exact h.put _ _ _
        | cons => rfl
theorem b3z {β : Type} (Γ : Env) (base : Nat) {k : St -> Option β} (hk : ∀ s s', Same s s' -> k s = k s') : ∀ (os : List Oper) (s : St) (l : List (Nat × Acc)), (match a3c Γ (K Γ) base os (s, l) with | some s => k s.1 | none => none) = RT0 Γ base os s l k
 | [], s, l => rfl
 | o :: os, s, l => by
  have ih := b3z Γ base hk os
  unfold a3c RT0
  have done : ∀ s0 : St, Same s s0 -> (match (match (if (o.conf.all fun j => l.all fun p => decide (p.1 ≠ j) || Acc.free p.2 (acc base (rd Γ s.t) o.op)) = true then
   Option.map (fun s' => (s', (o.ix, acc base (rd Γ s.t) o.op) :: l)) (match perform (K Γ) base s.h (rd Γ s.t) o.op with
    | none => none
    | some (v, h) => some ({ t := put1 o.dst v (drop o.op.takes s.t), h := h } : St)) else none) with
   | none => (none : Option (St × List (Nat × Acc)))
   | some s => a3c Γ (K Γ) base os s) with | some s => k s.1 | none => none) =
   (if (o.conf.all fun j => l.all fun p => decide (p.1 ≠ j) || Acc.free p.2 (acc base (rd Γ s.t) o.op)) = true then P1 Γ base o.dst o.op s0 fun s' => RT0 Γ base os s' ((o.ix, acc base (rd Γ s.t) o.op) :: l) k else none) := fun s0 h0 => by
   by_cases hc : (o.conf.all fun j => l.all fun p => decide (p.1 ≠ j) || Acc.free p.2 (acc base (rd Γ s.t) o.op)) = true
   ·rw [if_pos hc, if_pos hc, ← a7D (fun _ _ h => a7E hk h) h0]
    unfold P1
    cases hp : perform (K Γ) base s.h (rd Γ s.t) o.op with
    | none => rfl
    | some q => obtain ⟨v, h⟩ := q; exact ih _ _
   ·rw [if_neg hc, if_neg hc]
  have skip : (match (match Option.map (fun s' => (s', l)) (some ({ t := put1 o.dst (.tup []) s.t, h := s.h } : St)) with
   | none => (none : Option (St × List (Nat × Acc)))
   | some s => a3c Γ (K Γ) base os s) with | some s => k s.1 | none => none) = RT0 Γ base os { t := put1 o.dst (.tup []) s.t, h := s.h } l k := ih _ _
  cases hg : o.guard with
  | none =>
   simp only [stepT, step, wanted, hg]
   exact done s (.refl s)
  | some p =>
   obtain ⟨g, w⟩ := p
   simp only [stepT, step, wanted, hg]
   cases hv : get s.t g with
   | sc c =>
    cases c with
    | bool b =>
     by_cases hb : b = w
     ·subst hb
      simp only [beq_self_eq_true, if_true]
      exact done _ (.learn hv)
     ·have h1 : (b == w) = false := by simpa using hb
      simp only [h1, if_neg hb]
      refine skip.trans (a7E hk ?_)
      have : b = !w := by cases b <;> cases w <;> simp at hb ⊢
      exact (Same.learn (s := s) (g := g) (by rw [hv, this])).put _ _ _
    | _ => rfl
   | agg cs => rfl
   | tup vs =>
    cases vs with
    | nil => exact skip
    | cons => rfl
theorem a9D {β : Type} {keep : List Nat} {f : St -> Option β} : ∀ s s', Same s s' -> f { t := restrict keep s.t, h := s.h } = f { t := restrict keep s'.t, h := s'.h } := fun s s' h => by
 have : restrict keep s.t = restrict keep s'.t := List.map_congr_left fun i _ => by rw [h.1]
 rw [this, h.2]
/-! ### Words that are gone into from the front alone -/
def a0L {α β : Type} (a : Option α) (f : α -> Option β) (_ : Tag f := .mk) : Option β :=
 match a with
 | some x => f x
 | none => none
@[simp, go_sem] theorem a1K {α β : Type} (x : α) (f : α -> Option β) : a0L (some x) f = f x := nrfl rfl
@[simp, go_sem] theorem c3T {α β : Type} (f : α -> Option β) : a0L none f = none := nrfl rfl
def br {α : Type} (b : Bool) (x y : α) (_ : Tag2 x y := .mk) : α := match b with | true => x | false => y
attribute [go_sem] I J M Y U kI kB oL oS oF oI oN oB oK oE oU oM oO oA o1 o2 o3 o4
@[simp, go_sem] theorem a4R {α : Type} (x y : α) : br true x y = x := nrfl rfl
@[simp, go_sem] theorem a4r {α : Type} (x y : α) : br false x y = y := nrfl rfl
theorem a0o {α : Type} {p : Prop} [Decidable p] {x y r : α} (h : p) (h1 : x = r) : br (decide p) x y = r := by rw [decide_eq_true h]; exact h1
theorem a0t {α : Type} {p : Prop} [Decidable p] {x y r : α} (h : ¬ p) (h1 : y = r) : br (decide p) x y = r := by rw [decide_eq_false h]; exact h1
theorem a0n {α : Type} {b : Bool} {x y r : α} (h : b = true) (h1 : x = r) : br b x y = r := by rw [h]; exact h1
theorem a0m {α : Type} {c d : Bool} {x y r : α} (h : (c && d) = true) (h1 : x = r) : br (c && d) x y = r := by rw [h]; exact h1
theorem a0l {α : Type} {p : Prop} [Decidable p] {a b : Acc} {x y r : α} (h : (decide p || Acc.free a b) = true) (h1 : x = r) : br (decide p || Acc.free a b) x y = r := by rw [h]; exact h1
theorem a0a {α : Type} {b : Bool} {x y r : α} (h1 : b = true -> x = r) (h2 : b = false -> y = r) : br b x y = r := by cases b <;> simp_all
theorem brY {α : Type} {p : Prop} [Decidable p] {x y r : α} (h1 : x = r) (h : p := by omega) : br (decide p) x y = r := a0o h h1
theorem brN {α : Type} {p : Prop} [Decidable p] {x y r : α} (h1 : y = r) (h : ¬ p := by omega) : br (decide p) x y = r := a0t h h1
theorem brA {α : Type} {b : Bool} {x y r : α} (h1 : x = r) (h : b = true := by first | (simp only [Bool.and_eq_true, decide_eq_true_eq]; omega) | fail) : br b x y = r := a0n h h1
theorem brD {α : Type} {p : Prop} [Decidable p] {a b : Acc} {x y r : α} (h1 : x = r) (h : (decide p || Acc.free a b) = true := by first | (simp [go_sem, Pm.acc, Acc.free, refsOf, a0h, a0c, a0g, a0b, a0d]; done) | fail) : br (decide p || Acc.free a b) x y = r := a0l h h1
theorem brF {α : Type} {c d : Bool} {x y r : α} (h1 : x = r) (h : (c && d) = true := by first | (simp [go_sem, Pm.acc, Acc.free, refsOf, a0h, a0c, a0g, a0b, a0d]; done) | fail) : br (c && d) x y = r := a0m h h1
def sel (b : Bool) (v : V) : V := if b then v else .tup []
@[go_sem] theorem c7d (b : Bool) (v : V) : (sel b v).a0r = sel b v.a0r := by cases b <;> rfl
@[go_sem] theorem c8M (v : V) : sel true v = v := nrfl rfl
@[go_sem] theorem c7c (v : V) : sel false v = .tup [] := nrfl rfl
theorem a0p {b : Bool} (h : b = true) (v : V) : sel b v = v := by rw [h]; rfl
def a9n {β : Type} (c x y : V) (f : V -> Option β) (_ : Tag f := .mk) : Option β := match c with | .sc (.bool b) => f (if b then x else y) | _ => none
@[go_sem] theorem c5s {β : Type} (x y : V) (f : V -> Option β) : a9n (.sc (.bool true)) x y f = f x := nrfl rfl
@[go_sem] theorem c2R {β : Type} (x y : V) (f : V -> Option β) : a9n (.sc (.bool false)) x y f = f y := nrfl rfl
@[go_sem] theorem c6Q {β : Type} (b c : Bool) (f : V -> Option β) : a9n (.sc (.bool b)) (sel b (.sc (.bool c))) (.sc (.bool false)) f = f (.sc (.bool (b && c))) := by cases b <;> rfl
@[go_sem] theorem c8E {β : Type} (b c : Bool) (f : V -> Option β) : a9n (.sc (.bool b)) (.sc (.bool true)) (sel (!b) (.sc (.bool c))) f = f (.sc (.bool (b || c))) := by cases b <;> rfl
theorem a0f {β : Type} {b : Bool} {x y : V} {f : V -> Option β} {r : Option β} (h : br b (f x) (f y) = r) : a9n (.sc (.bool b)) x y f = r := by cases b <;> exact h
theorem d7E {β : Type} {b : Bool} {x y : V} {f : V -> Option β} {r : Option β} (h1 : b = true -> f x = r) (h2 : b = false -> f y = r) : a9n (.sc (.bool b)) x y f = r := a0f (a0a h1 h2)
def b8a {β : Type} (v : V) (f : Bool -> Option β) (_ : Tag f := .mk) : Option β := match v with | .sc (.bool b) => f b | _ => none
@[simp, go_sem] theorem c6I {β : Type} (b : Bool) (f : Bool -> Option β) : b8a (.sc (.bool b)) f = f b := nrfl rfl
def a5s {β : Type} (v : V) (f : Bool -> Option β) (g : Option β) (_ : Tag2 f g := .mk) : Option β := match v with | .sc (.bool b) => f b | .tup [] => g | _ => none
@[simp, go_sem] theorem b4J {β : Type} (b : Bool) (f : Bool -> Option β) (g : Option β) : a5s (.sc (.bool b)) f g = f b := nrfl rfl
@[simp, go_sem] theorem c2N {β : Type} (f : Bool -> Option β) (g : Option β) : a5s (.tup []) f g = g := nrfl rfl
theorem a0e {β : Type} {b : Bool} {v : V} {f : Bool -> Option β} {g r : Option β} (h1 : b = true -> a5s v f g = r) (h2 : b = false -> g = r) : a5s (sel b v) f g = r := by
 cases b with
 | true => exact h1 rfl
 | false => exact h2 rfl
def a7v {β : Type} (v : V) (f : IntKind -> Int -> Option β) (_ : Tag f := .mk) : Option β := match v with | .sc (.int k n) => f k n | _ => none
@[simp, go_sem] theorem a7Y {β : Type} (k : IntKind) (n : Int) (f : IntKind -> Int -> Option β) : a7v (.sc (.int k n)) f = f k n := nrfl rfl
def a7w {β : Type} (v : V) (f : Nat -> Nat -> Option β) (g : List C -> Nat -> Option β) (_ : Tag2 f g := .mk) : Option β := match v with | .sc (.ptr p o) => f p o | .sc (.eptr cs o) => g cs o | _ => none
@[simp, go_sem] theorem a6b {β : Type} (p o : Nat) (f : Nat -> Nat -> Option β) (g : List C -> Nat -> Option β) : a7w (.sc (.ptr p o)) f g = f p o := nrfl rfl
@[simp, go_sem] theorem b2k {β : Type} (cs : List C) (o : Nat) (f : Nat -> Nat -> Option β) (g : List C -> Nat -> Option β) : a7w (.sc (.eptr cs o)) f g = g cs o := nrfl rfl
def a8j {β : Type} (o : Option Obj) (f : List C -> Option β) (_ : Tag f := .mk) : Option β := match o with | some (.var cs) => f cs | _ => none
@[simp, go_sem] theorem a5U {β : Type} (cs : List C) (f : List C -> Option β) : a8j (some (.var cs)) f = f cs := nrfl rfl
def a5D {β : Type} (o : Option Obj) (x : Option β) (_ : Tag x := .mk) : Option β := match o with | some .free => x | _ => none
@[simp, go_sem] theorem c6L {β : Type} (x : Option β) : a5D (some .free) x = x := nrfl rfl
def b6I {β : Type} (v : V) (f : List C -> Option β) (_ : Tag f := .mk) : Option β := match v with | .agg cs => f cs | _ => none
@[simp, go_sem] theorem b4I {β : Type} (cs : List C) (f : List C -> Option β) : b6I (.agg cs) f = f cs := nrfl rfl
def c0o {β : Type} (v : V) (f : List V -> Option β) (_ : Tag f := .mk) : Option β := match v with | .tup vs => f vs | _ => none
@[simp, go_sem] theorem b9n {β : Type} (vs : List V) (f : List V -> Option β) : c0o (.tup vs) f = f vs := nrfl rfl
def b0B {β : Type} (es : Nat) (v : V) (f : List (List C) -> Option β) (_ : Tag f := .mk) : Option β := match elems es v with | some l => f l | none => none
@[simp, go_sem] theorem c5n {β : Type} (es : Nat) (k : SK) (l : List (List C)) (f : List (List C) -> Option β) : b0B es (.sc (.sl k es l)) f = f l := by simp [b0B, elems]
@[simp, go_sem] theorem c2M {β : Type} (es : Nat) (l : List (List C)) (f : List (List C) -> Option β) : b0B es (.sc (.own es l)) f = f l := by simp [b0B, elems]
def a8R {β : Type} (es : Nat) (v i : V) (f : Nat -> Nat -> Option β) (g : List C -> Option β) (_ : Tag2 f g := .mk) : Option β :=
 match v with
 | .sc (.msl p off len _ es') => if es' ≠ es then none else match place len i with | some j => f p (off + j * es) | none => none
 | v => match elems es v with
  | some l => match nth l i with | some e => g e | none => none
  | none => none
@[simp, go_sem] theorem c5m {β : Type} (es p off len cap : Nat) (i : Int) (k : IntKind) (f : Nat -> Nat -> Option β) (g : List C -> Option β) :
 a8R es (.sc (.msl p off len cap es)) (.sc (.int k i)) f g = br (decide (0 <= i /\ i < len)) (f p (off + i.toNat * es)) none := by
 simp only [a8R, place, ne_eq, not_true_eq_false, if_false]
 by_cases h : 0 <= i /\ i < len <;> simp [h]
@[simp, go_sem] theorem c6K {β : Type} (es : Nat) (s : SK) (l : List (List C)) (i : Int) (k : IntKind) (f : Nat -> Nat -> Option β) (g : List C -> Option β) :
 a8R es (.sc (.sl s es l)) (.sc (.int k i)) f g = br (decide (0 <= i)) (a0L (l[i.toNat]?) g) none := by
 simp only [a8R, elems, if_true, nth]
 by_cases h : 0 <= i
 ·simp only [h, if_true, decide_true, a4R]; cases l[i.toNat]? <;> rfl
 ·simp [h]
section
variable {β : Type} (Γ : Env) (s : St) (Q : Ex -> St -> Option β)
@[go_sem] theorem d0k : E Γ .skip s Q = Q .norm s := by unfold E; rw [X_eq]; rfl
@[go_sem] theorem d0T : E Γ .ret s Q = Q .ret s := by unfold E; rw [X_eq]; rfl
@[go_sem] theorem d0i (id : Nat) : E Γ (.exit id) s Q = Q (.exit id) s := by unfold E; rw [X_eq]; rfl
@[go_sem] theorem d0U (a b : AC) : E Γ (.seq a b) s Q = E Γ a s fun e s => match e with | .norm => E Γ b s Q | e => Q e s := by
 unfold E
 rw [X_eq]
 simp only [a0U]
 cases X Γ a s with
 | none => rfl
 | some p => obtain ⟨e, s'⟩ := p; cases e <;> rfl
@[go_sem] theorem d0h (c : Rand) (a b : AC) : E Γ (.cond c a b) s Q = b8a (rd Γ s.t c) fun x => br x (E Γ a s Q) (E Γ b s Q) := by
 unfold E
 rw [X_eq]
 simp only [a0U]
 cases rd Γ s.t c with
 | sc c => cases c with
  | bool x => cases x <;> rfl
  | _ => rfl
 | _ => rfl
@[go_sem] theorem c8W (id : Nat) (a : AC) : E Γ (.block id a) s Q = E Γ a s fun e s => match e with | .exit id' => if id' = id then Q .norm s else Q (.exit id') s | e => Q e s := by
 unfold E
 rw [X_eq]
 simp only [a0U]
 cases X Γ a s with
 | none => rfl
 | some p =>
  obtain ⟨e, s'⟩ := p
  cases e with
  | exit id' => simp only [andThen]; by_cases h : id' = id <;> simp [h]
  | _ => rfl
@[go_sem] theorem d0S (i : Nat) (a : AC) : E Γ (.frz i a) s Q = a0L (frozen i s) fun s => E Γ a s Q := by
 unfold E
 rw [X_eq]
 simp only [a0U]
 cases frozen i s <;> rfl
@[go_sem] theorem d0j (i : Nat) (a : AC) : E Γ (.frzc i a) s Q = a0L (a3G i s) fun s => E Γ a s Q := by
 unfold E
 rw [X_eq]
 simp only [a0U]
 cases a3G i s <;> rfl
@[go_sem] theorem c7H (nal : Nat) (ops : List Oper) (keep : List Nat) : E Γ (.region nal ops false keep) s Q = R Γ s.h.length ops { t := s.t, h := s.h ++ List.replicate nal .free } fun s => Q .norm { t := restrict keep s.t, h := s.h } := by
 unfold E R
 rw [X_eq, ← b6o Γ _ (a9D (f := fun s => Q .norm s))]
 simp only [a0U, region]
 cases steps Γ (K Γ) s.h.length ops { t := s.t, h := s.h ++ List.replicate nal .free } <;> rfl
@[go_sem] theorem c1K (nal : Nat) (ops : List Oper) (keep : List Nat) : E Γ (.region nal ops true keep) s Q = RTs Γ s.h.length ops { t := s.t, h := s.h ++ List.replicate nal .free } [] fun s => Q .norm { t := restrict keep s.t, h := s.h } := by
 unfold E RTs
 rw [X_eq, ← b3z Γ _ (a9D (f := fun s => Q .norm s))]
 simp only [a0U, region]
 cases a3c Γ (K Γ) s.h.length ops ({ t := s.t, h := s.h ++ List.replicate nal .free }, []) <;> rfl
theorem E_of {c : AC} {r : Ex × St} (h : X Γ c s = some r) : E Γ c s Q = Q r.1 r.2 := by unfold E; rw [h]; rfl
end
/-! ### Operations in their order -/
section
variable {β : Type} (Γ : Env) (base : Nat) (os : List Oper) (s : St) (k : St -> Option β) (ix : Nat) (dst : Option Nat) (op : Op) (cf : List Nat) (l : List (Nat × Acc))
@[go_sem] theorem d0X : R Γ base [] s k = k s := nrfl rfl
@[go_sem] theorem d0w : R Γ base (⟨ix, dst, op, none, cf⟩ :: os) s k = P1 Γ base dst op s fun s => R Γ base os s k := nrfl rfl
theorem b5H (g : Nat) (w : Bool) : R Γ base (⟨ix, dst, op, some (g, w), cf⟩ :: os) s k = a5s (get s.t g) (fun b => br b
      (br w (P1 Γ base dst op { t := (g, .sc (.bool true)) :: s.t, h := s.h } fun s => R Γ base os s k) (R Γ base os { t := put1 dst (.tup []) ((g, .sc (.bool true)) :: s.t), h := s.h } k))
      (br w (R Γ base os { t := put1 dst (.tup []) ((g, .sc (.bool false)) :: s.t), h := s.h } k) (P1 Γ base dst op { t := (g, .sc (.bool false)) :: s.t, h := s.h } fun s => R Γ base os s k)))
    (R Γ base os { t := put1 dst (.tup []) s.t, h := s.h } k) := by
  unfold R
  rw [R0]
  simp only
  cases get s.t g with
  | sc c => cases c with
    | bool b => cases b <;> cases w <;> simp
    | _ => rfl
  | agg => rfl
  | tup vs => cases vs <;> rfl
@[go_sem] theorem c7Y (g : Nat) (t : List (Nat × V)) (h : List Obj) : R Γ base (⟨ix, dst, op, some (g, true), cf⟩ :: os) ⟨t, h⟩ k = a5s (get t g) (fun b => br b
      (P1 Γ base dst op { t := (g, .sc (.bool true)) :: t, h := h } fun s => R Γ base os s k) (R Γ base os { t := put1 dst (.tup []) ((g, .sc (.bool false)) :: t), h := h } k))
    (R Γ base os { t := put1 dst (.tup []) t, h := h } k) := b5H ..
@[go_sem] theorem c7X (g : Nat) (t : List (Nat × V)) (h : List Obj) : R Γ base (⟨ix, dst, op, some (g, false), cf⟩ :: os) ⟨t, h⟩ k = a5s (get t g) (fun b => br b
      (R Γ base os { t := put1 dst (.tup []) ((g, .sc (.bool true)) :: t), h := h } k) (P1 Γ base dst op { t := (g, .sc (.bool false)) :: t, h := h } fun s => R Γ base os s k))
    (R Γ base os { t := put1 dst (.tup []) t, h := h } k) := b5H ..
@[go_sem] theorem d0v : RTs Γ base [] s l k = k s := nrfl rfl
@[go_sem] theorem c7V : RTs Γ base (⟨ix, dst, op, none, []⟩ :: os) s l k = P1 Γ base dst op s fun s' => RTs Γ base os s' ((ix, acc base (rd Γ s.t) op) :: l) k := by
 unfold RTs
 rw [RT0]; simp
theorem c0D : RTs Γ base (⟨ix, dst, op, none, cf⟩ :: os) s l k = br (cf.all fun j => l.all fun p => decide (p.1 ≠ j) || Acc.free p.2 (acc base (rd Γ s.t) op)) (P1 Γ base dst op s fun s' => RTs Γ base os s' ((ix, acc base (rd Γ s.t) op) :: l) k) none := by
 unfold RTs
 rw [RT0]
 simp only
 cases cf.all fun j => l.all fun p => decide (p.1 ≠ j) || Acc.free p.2 (acc base (rd Γ s.t) op) <;> rfl
@[go_sem] theorem c7W (c : Nat) (cs : List Nat) : RTs Γ base (⟨ix, dst, op, none, c :: cs⟩ :: os) s l k = br ((c :: cs).all fun j => l.all fun p => decide (p.1 ≠ j) || Acc.free p.2 (acc base (rd Γ s.t) op)) (P1 Γ base dst op s fun s' => RTs Γ base os s' ((ix, acc base (rd Γ s.t) op) :: l) k) none :=
 c0D ..
@[go_sem] theorem c6h (g : Nat) (w : Bool) : RTs Γ base (⟨ix, dst, op, some (g, w), []⟩ :: os) s l k = a5s (get s.t g) (fun b => br b
      (br w (P1 Γ base dst op { t := (g, .sc (.bool true)) :: s.t, h := s.h } fun s' => RTs Γ base os s' ((ix, acc base (rd Γ s.t) op) :: l) k) (RTs Γ base os { t := put1 dst (.tup []) ((g, .sc (.bool true)) :: s.t), h := s.h } l k))
      (br w (RTs Γ base os { t := put1 dst (.tup []) ((g, .sc (.bool false)) :: s.t), h := s.h } l k) (P1 Γ base dst op { t := (g, .sc (.bool false)) :: s.t, h := s.h } fun s' => RTs Γ base os s' ((ix, acc base (rd Γ s.t) op) :: l) k)))
    (RTs Γ base os { t := put1 dst (.tup []) s.t, h := s.h } l k) := by
  unfold RTs
  rw [RT0]
  simp only [List.all_nil, if_true]
  cases get s.t g with
  | sc c => cases c with
    | bool b => cases b <;> cases w <;> simp
    | _ => rfl
  | agg => rfl
  | tup vs => cases vs <;> rfl
@[go_sem] theorem c6i (g : Nat) (w : Bool) (c : Nat) (cs : List Nat) : RTs Γ base (⟨ix, dst, op, some (g, w), c :: cs⟩ :: os) s l k = a5s (get s.t g) (fun b => br (b == w)
      (br ((c :: cs).all fun j => l.all fun p => decide (p.1 ≠ j) || Acc.free p.2 (acc base (rd Γ s.t) op)) (P1 Γ base dst op { t := (g, .sc (.bool w)) :: s.t, h := s.h } fun s' => RTs Γ base os s' ((ix, acc base (rd Γ s.t) op) :: l) k) none)
      (RTs Γ base os { t := put1 dst (.tup []) ((g, .sc (.bool !w)) :: s.t), h := s.h } l k))
    (RTs Γ base os { t := put1 dst (.tup []) s.t, h := s.h } l k) := by
  unfold RTs
  rw [RT0]
  simp only
  cases get s.t g with
  | sc c => cases c with
    | bool b =>
      simp only [b4J]
      generalize (List.all (_ :: _) fun j => l.all fun p => decide (p.1 ≠ j) || Acc.free p.2 (acc base (rd Γ s.t) op)) = z
      cases b <;> cases w <;> cases z <;> simp
    | _ => rfl
  | agg => rfl
  | tup vs => cases vs <;> rfl
end
/-! ### Each operation -/
theorem a1S {h : List Obj} {r : Nat} : a1z h r = true <-> h[r]? = some .free := by
 unfold a1z
 constructor
 ·intro e
  split at e
  ·assumption
  ·cases e
 ·intro e; rw [e]
theorem a4C {β : Type} {o : Option Obj} (x : Option β) (h : o ≠ some .free) : a5D o x = none := by
 unfold a5D
 split
 ·exact absurd rfl h
 ·rfl
section
variable {β : Type} (Γ : Env) (base : Nat) (d : Option Nat) (t : List (Nat × V)) (h : List Obj) (k : St -> Option β)
@[go_sem] theorem d0V (x : Rand) : P1 Γ base d (.mv x) ⟨t, h⟩ k = k ⟨put1 d (rd Γ t x) (drop x.takes t), h⟩ := nrfl rfl
@[go_sem] theorem c9m (c a b : Rand) : P1 Γ base d (.pick c a b) ⟨t, h⟩ k = a9n (rd Γ t c) (rd Γ t a) (rd Γ t b) (fun v => k ⟨put1 d v t, h⟩) := by
 simp only [P1, perform, eff, a9n]
 cases rd Γ t c with
 | sc c => cases c with
  | bool b => cases b <;> rfl
  | _ => rfl
 | _ => rfl
theorem b3U {op : Op} {s : St} : P1 Γ base d op s k = a0L (P1 Γ base d op s some) k := by
 unfold P1
 cases perform (K Γ) base s.h (rd Γ s.t) op <;> rfl
theorem a0k {op : Op} {i g : Nat} {v : V} {b : Bool} {r : Option β} (hv : b = true -> P1 Γ base (some i) op ⟨(g, .sc (.bool true)) :: t, h⟩ some = some ⟨(i, v) :: (g, .sc (.bool true)) :: t, h⟩)
 (hr : k ⟨(i, sel b v) :: (g, .sc (.bool b)) :: t, h⟩ = r) :
 br b (P1 Γ base (some i) op ⟨(g, .sc (.bool true)) :: t, h⟩ k) (k ⟨(i, .tup []) :: (g, .sc (.bool false)) :: t, h⟩) = r := by
 cases b with
 | true => rw [a4R, b3U, hv rfl]; exact hr
 | false => exact hr
theorem a0j {op : Op} {i g : Nat} {v : V} {b : Bool} {r : Option β} (hv : (!b) = true -> P1 Γ base (some i) op ⟨(g, .sc (.bool false)) :: t, h⟩ some = some ⟨(i, v) :: (g, .sc (.bool false)) :: t, h⟩)
 (hr : k ⟨(i, sel (!b) v) :: (g, .sc (.bool b)) :: t, h⟩ = r) :
 br b (k ⟨(i, .tup []) :: (g, .sc (.bool true)) :: t, h⟩) (P1 Γ base (some i) op ⟨(g, .sc (.bool false)) :: t, h⟩ k) = r := by
 cases b with
 | false => rw [a4r, b3U, hv rfl]; exact hr
 | true => exact hr
@[go_sem] theorem c7I (a : Nat) (z : List C) : P1 Γ base d (.alloc a z) ⟨t, h⟩ k = a5D (h[base + a]?) (br (C.a0v z) (k ⟨put1 d (.sc (.ptr (base + a) 0)) t, h.set (base + a) (.var z)⟩) none) := by
 simp only [P1, perform, eff]
 by_cases hf : h[base + a]? = some .free
 ·have hi := a1S.2 hf
  rw [hf]
  cases hz : C.a0v z <;> simp [hi] <;> rfl
 ·have hi : a1z h (base + a) = false := by cases e : a1z h (base + a) with | false => rfl | true => exact absurd (a1S.1 e) hf
  rw [a4C _ hf]; simp [hi]
@[go_sem] theorem d0o (a : Nat) (x : Rand) : P1 Γ base d (.box a x) ⟨t, h⟩ k = a5D (h[base + a]?) (k ⟨put1 d (.sc (.ptr (base + a) 0)) (drop x.takes t), h.set (base + a) (.var (rd Γ t x).cells)⟩) := by
 simp only [P1, perform, eff]
 by_cases hf : h[base + a]? = some .free
 ·have hi := a1S.2 hf
  rw [hf]; simp [hi]; rfl
 ·have hi : a1z h (base + a) = false := by cases e : a1z h (base + a) with | false => rfl | true => exact absurd (a1S.1 e) hf
  rw [a4C _ hf]; simp [hi]
@[go_sem] theorem c7J (z : List C) (ps : List (Nat × Nat × Rand)) : P1 Γ base d (.build z ps) ⟨t, h⟩ k = a0L (a3a z (ps.map fun p => (p.1, p.2.1, rd Γ t p.2.2))) fun cs => k ⟨put1 d (.agg cs) t, h⟩ := by
 simp only [P1, perform, eff]
 cases a3a z (ps.map fun p => (p.1, p.2.1, rd Γ t p.2.2)) <;> rfl
@[go_sem] theorem c6b (es n : Nat) (z : List C) (ps : List (Nat × Rand)) : P1 Γ base d (.bslice es n z ps) ⟨t, h⟩ k = a0L (a2c es (List.replicate n z) (ps.map fun p => (p.1, rd Γ t p.2))) fun l =>
 br (decide (z.length = es) && l.all C.a0v) (k ⟨put1 d (.sc (.sl .full es l)) t, h⟩) none := by
 simp only [P1, perform, eff]
 cases a2c es (List.replicate n z) (ps.map fun p => (p.1, rd Γ t p.2)) with
 | none => rfl
 | some l =>
  simp only [a1K]
  by_cases h1 : z.length = es
  ·cases h2 : l.all C.a0v <;> simp [h1, h2] <;> rfl
  ·simp [h1]
@[go_sem] theorem c9k (n : Option Nat) (x : Rand) : P1 Γ base d (.load n x) ⟨t, h⟩ k = a7w (rd Γ t x) (fun p off => a8j (h[p]?) fun cs => a0L (a1t cs off n) fun v => k ⟨put1 d v t, h⟩) (fun cs off => a0L (a1t cs off n) fun v => k ⟨put1 d v t, h⟩) := by
 simp only [P1, perform, eff]
 cases rd Γ t x with
 | sc c => cases c with
  | ptr p off =>
   simp only [a6b]
   cases h[p]? with
   | none => rfl
   | some o => cases o with
    | var cs => simp only [a5U]; cases a1t cs off n <;> rfl
    | _ => rfl
  | eptr cs off => simp only [b2k]; cases a1t cs off n <;> rfl
  | _ => rfl
 | _ => rfl
@[go_sem] theorem c7O (x : Rand) : P1 Γ base d (.loadT x) ⟨t, h⟩ k = a7w (rd Γ t x) (fun p off => a8j (h[p]?) fun cs => a0L (cs[off]?) fun c => k ⟨put1 d (.sc c) t, h.set p (.var (cs.set off (Pm.a0r c)))⟩) (fun _ _ => none) := by
 simp only [P1, perform, eff]
 cases rd Γ t x with
 | sc c => cases c with
  | ptr p off =>
   simp only [a6b]
   cases h[p]? with
   | none => rfl
   | some o => cases o with
    | var cs => simp only [a5U]; cases cs[off]? <;> rfl
    | _ => rfl
  | _ => rfl
 | _ => rfl
@[go_sem] theorem c7U (n : Nat) (x v : Rand) : P1 Γ base d (.store n x v) ⟨t, h⟩ k = a7w (rd Γ t x) (fun p off => a8j (h[p]?) fun cs =>
 br (decide ((rd Γ t v).cells.length = n /\ 0 < n /\ off + n <= cs.length)) (k ⟨put1 d (.tup []) (drop (x.takes ++ v.takes) t), h.set p (.var (a1H cs off (rd Γ t v).cells))⟩) none) (fun _ _ => none) := by
 simp only [P1, perform, eff]
 cases rd Γ t x with
 | sc c => cases c with
  | ptr p off =>
   simp only [a6b]
   cases h[p]? with
   | none => rfl
   | some o => cases o with
    | var cs => simp only [a5U]; by_cases hc : (rd Γ t v).cells.length = n /\ 0 < n /\ off + n <= cs.length <;> simp only [hc, decide_true, decide_false, a4R, a4r, if_true, if_false] <;> rfl
    | _ => rfl
  | _ => rfl
 | _ => rfl
@[go_sem] theorem d0n (op : BinOp) (x y : Rand) : P1 Γ base d (.bin op x y) ⟨t, h⟩ k = a0L (bin op (rd Γ t x) (rd Γ t y)) fun c => k ⟨put1 d (.sc c) t, h⟩ := by
 simp only [P1, perform, eff, one]
 cases bin op (rd Γ t x) (rd Γ t y) <;> rfl
@[go_sem] theorem d0p (neg : Bool) (ty : KT) (x y : Rand) : P1 Γ base d (.eqf neg ty x y) ⟨t, h⟩ k = br (decide ((rd Γ t x).isAgg = ty.agg /\ (rd Γ t y).isAgg = ty.agg)) (a0L (a0c ty.tags (rd Γ t x).cells (rd Γ t y).cells) fun b => k ⟨put1 d (.sc (.bool (neg ^^ b))) t, h⟩) none := by
 simp only [P1, perform, eff]
 by_cases hc : (rd Γ t x).isAgg = ty.agg /\ (rd Γ t y).isAgg = ty.agg
 ·simp only [hc, and_self, if_true, decide_true, a4R]; cases a0c ty.tags (rd Γ t x).cells (rd Γ t y).cells <;> rfl
 ·simp [hc]
@[go_sem] theorem d0W (op : UnOp) (x : Rand) : P1 Γ base d (.un op x) ⟨t, h⟩ k = a0L (un op (rd Γ t x)) fun c => k ⟨put1 d (.sc c) t, h⟩ := by
 simp only [P1, perform, eff, one]
 cases un op (rd Γ t x) <;> rfl
@[go_sem] theorem c9f (ki : IntKind) (x : Rand) : P1 Γ base d (.conv ki x) ⟨t, h⟩ k = a7v (rd Γ t x) fun _ n => k ⟨put1 d (.sc (.int ki (ki.wrap n))) t, h⟩ := by
 simp only [P1, perform, eff]
 cases rd Γ t x with
 | sc c => cases c <;> rfl
 | _ => rfl
@[go_sem] theorem d0t (id : Nat) (sh : List (Option Nat)) (first cap : List Rand) : P1 Γ base d (.mkf id sh first cap) ⟨t, h⟩ k = br (decide (shapes (first.map (rd Γ t)) = some sh) && decide (shapes (cap.map (rd Γ t)) = some (cap.map fun _ => none)))
 (k ⟨put1 d (.sc (.fn (.fn id) sh ((first.map (rd Γ t)).flatMap V.cells) ((cap.map (rd Γ t)).flatMap V.cells))) t, h⟩) none := by
 simp only [P1, perform, eff]
 by_cases h1 : shapes (first.map (rd Γ t)) = some sh
 ·by_cases h2 : shapes (cap.map (rd Γ t)) = some (cap.map fun _ => none) <;> simp [h1, h2] <;> rfl
 ·simp [h1]
@[go_sem] theorem c7S (es : Nat) (x : Rand) (lo hi mx : Option Rand) : P1 Γ base d (.slice es x lo hi mx) ⟨t, h⟩ k = a0L (sliced es (rd Γ t x) (lo.map (rd Γ t)) (hi.map (rd Γ t)) (mx.map (rd Γ t))) fun c => k ⟨put1 d (.sc c) t, h⟩ := by
 simp only [P1, perform, eff, one]
 cases sliced es (rd Γ t x) (lo.map (rd Γ t)) (hi.map (rd Γ t)) (mx.map (rd Γ t)) <;> rfl
@[go_sem] theorem c7K (off : Nat) (x : Rand) : P1 Γ base d (.faddr off x) ⟨t, h⟩ k = a7w (rd Γ t x) (fun p o => k ⟨put1 d (.sc (.ptr p (o + off))) t, h⟩) (fun cs o => k ⟨put1 d (.sc (.eptr cs (o + off))) t, h⟩) := by
 simp only [P1, perform, eff]
 cases rd Γ t x with
 | sc c => cases c <;> rfl
 | _ => rfl
@[go_sem] theorem c7L (off : Nat) (n : Option Nat) (x : Rand) : P1 Γ base d (.field off n x) ⟨t, h⟩ k = b6I (rd Γ t x) fun cs => a0L (a1t cs off n) fun v => k ⟨put1 d v t, h⟩ := by
 simp only [P1, perform, eff]
 cases rd Γ t x with
 | agg cs => simp only [b4I]; cases a1t cs off n <;> rfl
 | _ => rfl
@[go_sem] theorem c7M (es : Nat) (x i : Rand) : P1 Γ base d (.iaddr es x i) ⟨t, h⟩ k = a8R es (rd Γ t x) (rd Γ t i) (fun p o => k ⟨put1 d (.sc (.ptr p o)) t, h⟩) (fun e => k ⟨put1 d (.sc (.eptr e 0)) t, h⟩) := by
  simp only [P1, perform, eff, a8R]
  cases rd Γ t x with
  | sc c => cases c with
    | msl p off len cap es' =>
      simp only
      by_cases hes : es' = es
      · simp only [hes, ne_eq, not_true_eq_false, if_false]; cases place len (rd Γ t i) <;> rfl
      · simp [hes]
    | sl kk es' l => simp only [elems]; by_cases hes : es' = es
                     · simp only [hes, if_true]; cases nth l (rd Γ t i) <;> rfl
                     · simp [hes]
    | own es' l => simp only [elems]; by_cases hes : es' = es
                   · simp only [hes, if_true]; cases nth l (rd Γ t i) <;> rfl
                   · simp [hes]
    | _ => rfl
  | _ => rfl
@[go_sem] theorem c9g (len es : Nat) (x i : Rand) : P1 Γ base d (.iarr len es x i) ⟨t, h⟩ k = a7w (rd Γ t x) (fun p o => a7v (rd Γ t i) fun _ n => br (decide (0 <= n /\ n < len)) (k ⟨put1 d (.sc (.ptr p (o + n.toNat * es))) t, h⟩) none)
 (fun cs o => a7v (rd Γ t i) fun _ n => br (decide (0 <= n /\ n < len)) (k ⟨put1 d (.sc (.eptr cs (o + n.toNat * es))) t, h⟩) none) := by
 simp only [P1, perform, eff]
 cases rd Γ t x with
 | sc c => cases c with
  | ptr p o =>
   simp only [a6b]
   cases rd Γ t i with
   | sc c => cases c with
    | int ki n => simp only [place, a7Y]; by_cases hc : 0 <= n /\ n < len <;> simp [hc] <;> rfl
    | _ => rfl
   | _ => rfl
  | eptr p o =>
   simp only [b2k]
   cases rd Γ t i with
   | sc c => cases c with
    | int ki n => simp only [place, a7Y]; by_cases hc : 0 <= n /\ n < len <;> simp [hc] <;> rfl
    | _ => rfl
   | _ => rfl
  | _ => rfl
 | _ => rfl
@[go_sem] theorem c7N (len es : Nat) (n : Option Nat) (x i : Rand) : P1 Γ base d (.index len es n x i) ⟨t, h⟩ k = b6I (rd Γ t x) fun cs => a7v (rd Γ t i) fun _ j => br (decide (0 <= j /\ j < len)) (a0L (a1t cs (j.toNat * es) n) fun v => k ⟨put1 d v t, h⟩) none := by
 simp only [P1, perform, eff]
 cases rd Γ t x with
 | agg cs =>
  simp only [b4I]
  cases rd Γ t i with
  | sc c => cases c with
   | int ki j =>
    simp only [place, a7Y]
    by_cases hc : 0 <= j /\ j < len
    ·simp only [hc, and_self, if_true, decide_true, a4R]; cases a1t cs (j.toNat * es) n <;> rfl
    ·simp [hc]
   | _ => rfl
  | _ => rfl
 | _ => rfl
@[go_sem] theorem d0q (x : Rand) (i : Nat) : P1 Γ base d (.ext x i) ⟨t, h⟩ k = c0o (rd Γ t x) fun vs => a0L (vs[i]?) fun v => k ⟨put1 d v t, h⟩ := by
 simp only [P1, perform, eff]
 cases rd Γ t x with
 | tup vs => simp only [b9n]; cases vs[i]? <;> rfl
 | _ => rfl
@[go_sem] theorem c9j (x : Rand) : P1 Γ base d (.len 1 x) ⟨t, h⟩ k = a0L (match rd Γ t x with | .sc (.sl _ _ l) => some (l.length : Int) | .sc (.msl _ _ n _ _) => some (n : Int) | _ => none) fun n => k ⟨put1 d (.sc (.int .i64 n)) t, h⟩ := by
 simp only [P1, perform, eff]
 cases rd Γ t x with
 | sc c => cases c <;> rfl
 | _ => rfl
@[go_sem] theorem c6e (n : Nat) : P1 Γ base d (.lenArr n) ⟨t, h⟩ k = k ⟨put1 d (.sc (.int .i64 n)) t, h⟩ := nrfl rfl
@[go_sem] theorem d0s (x : Rand) (xs : List Rand) : P1 Γ base d (.min x xs) ⟨t, h⟩ k = a7v (rd Γ t x) fun ki n => a0L (minOf ki n (xs.map (rd Γ t))) fun c => k ⟨put1 d (.sc c) t, h⟩ := by
 simp only [P1, perform, eff, one]
 cases rd Γ t x with
 | sc c => cases c with
  | int ki n => simp only [a7Y]; cases minOf ki n (xs.map (rd Γ t)) <;> rfl
  | _ => rfl
 | _ => rfl
@[go_sem] theorem d0r (x : Rand) (xs : List Rand) : P1 Γ base d (.max x xs) ⟨t, h⟩ k = a7v (rd Γ t x) fun ki n => a0L (maxOf ki n (xs.map (rd Γ t))) fun c => k ⟨put1 d (.sc c) t, h⟩ := by
 simp only [P1, perform, eff, one]
 cases rd Γ t x with
 | sc c => cases c with
  | int ki n => simp only [a7Y]; cases maxOf ki n (xs.map (rd Γ t)) <;> rfl
  | _ => rfl
 | _ => rfl
@[go_sem] theorem c6a (es : Nat) (x y : Rand) : P1 Γ base d (.append es x y) ⟨t, h⟩ k = a0L (appended es (rd Γ t x) (rd Γ t y)) fun c => k ⟨put1 d (.sc c) (drop (x.takes ++ y.takes) t), h⟩ := by
 simp only [P1, perform, eff, one]
 cases appended es (rd Γ t x) (rd Γ t y) <;> rfl
@[go_sem] theorem c6g (x : Rand) : P1 Γ base d (.nilchk x) ⟨t, h⟩ k = a0L (match rd Γ t x with | .sc (.ptr p o) => some (V.sc (.ptr p o)) | .sc (.eptr cs o) => some (.sc (.eptr cs o)) | .sc (.fn f sh a b) => some (.sc (.fn f sh a b)) | _ => none) fun v => k ⟨put1 d v t, h⟩ := by
 simp only [P1, perform, eff]
 cases rd Γ t x with
 | sc c => cases c <;> rfl
 | _ => rfl
@[go_sem] theorem c9e (p : Bool) (f : Rand) (args : List Rand) : P1 Γ base d (.call p f args) ⟨t, h⟩ k = a0L (target (rd Γ t f) (args.map (rd Γ t))) fun q =>
 br p (br (q.2.all V.pure) (a0L (K Γ q.1 q.2 []) fun r => a0L (alone h r) fun r => k ⟨put1 d r.1 t, r.2⟩) none) (a0L (K Γ q.1 q.2 h) fun r => k ⟨put1 d r.1 t, r.2⟩) := by
 simp only [P1, perform, calls]
 cases target (rd Γ t f) (args.map (rd Γ t)) with
 | none => rfl
 | some q =>
  obtain ⟨fk, vs⟩ := q
  simp only [a1K]
  cases p with
  | false =>
   simp only [a4r, Bool.false_eq_true, if_false]
   cases K Γ fk vs h <;> rfl
  | true =>
   simp only [a4R, if_true]
   by_cases hv : vs.all V.pure = true
   ·rw [if_pos hv, hv]
    simp only [a4R]
    cases K Γ fk vs [] with
    | none => rfl
    | some r => simp only [Option.bind_some, a1K]; cases alone h r <;> rfl
   ·rw [if_neg hv]
    have : vs.all V.pure = false := by simpa using hv
    rw [this]; rfl
end
theorem a8x {Γ : Env} {keep : List Nat} {body : AC} {s s' : St} (h : E Γ body s (fun e s1 => match e with | .norm => trim keep s.h.length s1 | _ => none) = some s') : X Γ (.loop keep body) s = X Γ (.loop keep body) s' := by
 unfold E andThen at h
 rw [X_eq]
 simp only [a0U]
 cases hx : X Γ body s with
 | none => rw [hx] at h; cases h
 | some p =>
  obtain ⟨e, s1⟩ := p
  rw [hx] at h
  cases e with
  | norm => simp only at h ⊢; rw [h]
  | _ => simp at h
theorem a5y {Γ : Env} {keep : List Nat} {body : AC} {s : St} {r : Ex × St} (h : E Γ body s (fun e s1 => match e with | .norm => none | e => some (e, s1)) = some r) : X Γ (.loop keep body) s = some r := by
 unfold E andThen at h
 rw [X_eq]
 simp only [a0U]
 cases hx : X Γ body s with
 | none => rw [hx] at h; cases h
 | some p =>
  obtain ⟨e, s1⟩ := p
  rw [hx] at h
  cases e with
  | norm => simp at h
  | exit id => exact h
  | ret => exact h
theorem a1J {β : Type} (Γ : Env) (keep : List Nat) (body : AC) (s : St) (Q : Ex -> St -> Option β) :
 E Γ (.loop keep body) s Q = E Γ body s fun e s1 => match e with | .norm => a0L (trim keep s.h.length s1) fun s' => E Γ (.loop keep body) s' Q | e => Q e s1 := by
 unfold E
 rw [X_eq]
 simp only [a0U]
 cases hx : X Γ body s with
 | none => rfl
 | some p =>
  obtain ⟨e, s1⟩ := p
  cases e with
  | norm => simp only [andThen]; cases trim keep s.h.length s1 <;> rfl
  | _ => rfl
def a4N {σ α ρ : Type} (f : Nat -> σ -> α -> Sum σ ρ) (e : σ -> ρ) : Nat -> σ -> List α -> ρ
 | _, a, [] => e a
 | n, a, x :: l => match f n a x with
  | .inl a => a4N f e (n + 1) a l
  | .inr r => r
theorem b5I {Γ : Env} {σ α : Type} {keep : List Nat} {B : AC} (S : Nat -> σ -> St) (l : List α) (f : Nat -> σ -> α -> Sum σ (Ex × St)) (T : σ -> Ex × St)
 (hstep : ∀ (i : Nat) a x a', l[i]? = some x -> f i a x = .inl a' -> E Γ B (S i a) (fun e s1 => match e with | .norm => trim keep (S i a).h.length s1 | _ => none) = some (S (i + 1) a'))
 (hexit : ∀ (i : Nat) a x r, l[i]? = some x -> f i a x = .inr r -> E Γ B (S i a) (fun e s1 => match e with | .norm => none | e => some (e, s1)) = some r)
 (hend : ∀ a, E Γ B (S l.length a) (fun e s1 => match e with | .norm => none | e => some (e, s1)) = some (T a)) (a : σ) :
 X Γ (.loop keep B) (S 0 a) = some (a4N f T 0 a l) := by
 have main : ∀ (m : List α) (i : Nat) (a : σ), l.drop i = m -> i <= l.length -> X Γ (.loop keep B) (S i a) = some (a4N f T i a m) := by
  intro m
  induction m with
  | nil =>
   intro i a hm hi
   have : l.length <= i := by simpa using hm
   obtain rfl : i = l.length := by omega
   exact a5y (hend a)
  | cons x m ih =>
   intro i a hm hi
   have hx : l[i]? = some x := by
    have := congrArg (fun z => z[0]?) hm
    simpa using this
   have hlt : i < l.length := (List.getElem?_eq_some_iff.1 hx).1
   unfold a4N
   cases hf : f i a x with
   | inl a' =>
    simp only
    rw [a8x (hstep i a x a' hx hf)]
    exact ih (i + 1) a' (by rw [← List.drop_drop, hm]; rfl) hlt
   | inr r => exact a5y (hexit i a x r hx hf)
 exact main l 0 a rfl (Nat.zero_le _)
theorem c1P {Γ : Env} {σ α : Type} {keep : List Nat} {B : AC} (S : Nat -> σ -> St) (l : List α) (f : σ -> α -> σ) (T : σ -> Ex × St)
 (hstep : ∀ (i : Nat) a x, l[i]? = some x -> E Γ B (S i a) (fun e s1 => match e with | .norm => trim keep (S i a).h.length s1 | _ => none) = some (S (i + 1) (f a x)))
 (hend : ∀ a, E Γ B (S l.length a) (fun e s1 => match e with | .norm => none | e => some (e, s1)) = some (T a)) (a : σ) :
 X Γ (.loop keep B) (S 0 a) = some (T (l.foldl f a)) := by
 rw [b5I S l (fun _ a x => .inl (f a x)) T (fun i a x a' hx hf => by cases hf; exact hstep i a x hx) (fun i a x r hx hf => by cases hf) hend a]
 have : ∀ (m : List α) (n : Nat) (a : σ), a4N (fun _ a x => Sum.inl (f a x)) T n a m = T (m.foldl f a) := by
  intro m
  induction m with
  | nil => intro n a; rfl
  | cons x m ih => intro n a; exact ih (n + 1) (f a x)
 rw [this]
theorem b3H {β : Type} {Γ : Env} {c : AC} {s : St} {Q : Ex -> St -> Option β} {r : Ex × St} (h : X Γ c s = some r) : E Γ c s Q = Q r.1 r.2 := E_of Γ s Q h
theorem a6g {β : Type} {Γ : Env} {σ α : Type} {keep : List Nat} {B : AC} (S : Nat -> σ -> St) (l : List α) (f : σ -> α -> σ) (T : σ -> Ex × St) (Q : Ex -> St -> Option β)
 (hstep : ∀ (i : Nat) a x, l[i]? = some x -> E Γ B (S i a) (fun e s1 => match e with | .norm => trim keep (S i a).h.length s1 | _ => none) = some (S (i + 1) (f a x)))
 (hend : ∀ a, E Γ B (S l.length a) (fun e s1 => match e with | .norm => none | e => some (e, s1)) = some (T a)) (a : σ) :
 E Γ (.loop keep B) (S 0 a) Q = Q (T (l.foldl f a)).1 (T (l.foldl f a)).2 := b3H (c1P S l f T hstep hend a)
theorem b5G {β : Type} {Γ : Env} {σ α : Type} {keep : List Nat} {B : AC} (S : Nat -> σ -> St) (l : List α) (f : Nat -> σ -> α -> Sum σ (Ex × St)) (T : σ -> Ex × St) (Q : Ex -> St -> Option β)
 (hstep : ∀ (i : Nat) a x a', l[i]? = some x -> f i a x = .inl a' -> E Γ B (S i a) (fun e s1 => match e with | .norm => trim keep (S i a).h.length s1 | _ => none) = some (S (i + 1) a'))
 (hexit : ∀ (i : Nat) a x r, l[i]? = some x -> f i a x = .inr r -> E Γ B (S i a) (fun e s1 => match e with | .norm => none | e => some (e, s1)) = some r)
 (hend : ∀ a, E Γ B (S l.length a) (fun e s1 => match e with | .norm => none | e => some (e, s1)) = some (T a)) (a : σ) :
 E Γ (.loop keep B) (S 0 a) Q = Q (a4N f T 0 a l).1 (a4N f T 0 a l).2 := b3H (b5I S l f T hstep hexit hend a)
def fin (f : Fn) (n : Nat) (s : St) : Option (V × List Obj) :=
 a0L (results s f.res) fun rs => br f.opn (some (tuple rs, s.h)) (a0L (a4X n s.h rs) fun rs => br ((s.h.take n).all (Obj.under n)) (some (tuple rs, s.h.take n)) none)
theorem K_fn {Γ : Env} {id : Nat} {f : Fn} (hf : Γ.fn id = some f) (vs : List V) (h : List Obj) (hl : vs.length = f.np) :
 K Γ (.fn id) vs h = E Γ f.body { t := number 0 vs, h := h } fun e s => match e with | .exit _ => none | _ => fin f h.length s := by
 rw [K_eq]
 unfold E
 simp only [a3D, hf, hl, ne_eq, not_true_eq_false, if_false]
 have key : ∀ s : St, (match results s f.res with
  | some rs => if f.opn then some (tuple rs, s.h) else match a4X h.length s.h rs with
   | some rs => if (s.h.take h.length).all (Obj.under h.length) then some (tuple rs, s.h.take h.length) else none
   | none => none
  | none => none) = fin f h.length s := fun s => by
  unfold fin
  cases results s f.res with
  | none => rfl
  | some rs =>
   simp only [a1K]
   cases f.opn with
   | true => rfl
   | false =>
    simp only [Bool.false_eq_true, if_false, a4r]
    cases a4X h.length s.h rs with
    | none => rfl
    | some rs => simp only [a1K]; cases (s.h.take h.length).all (Obj.under h.length) <;> rfl
 cases X Γ f.body { t := number 0 vs, h := h } with
 | none => rfl
 | some p =>
  obtain ⟨e, s⟩ := p
  cases e with
  | exit id => rfl
  | norm => exact key s
  | ret => exact key s
@[go_sem] theorem c7w (k : IntKind) (n : Int) : a0r (.int k n) = (.int k n) := nrfl rfl
@[go_sem] theorem c6o (k : IntKind) (n : Int) : V.cells (.sc (.int k n)) = [(.int k n)] := nrfl rfl
@[go_sem] theorem c5y (k : IntKind) (n : Int) (vs : List V) : shapes (.sc (.int k n) :: vs) = (shapes vs).map (none :: ·) := nrfl rfl
@[go_sem] theorem c5S (b : Bool) : a0r (.bool b) = (.bool b) := nrfl rfl
@[go_sem] theorem c3w (b : Bool) : V.cells (.sc (.bool b)) = [(.bool b)] := nrfl rfl
@[go_sem] theorem c2V (b : Bool) (vs : List V) : shapes (.sc (.bool b) :: vs) = (shapes vs).map (none :: ·) := nrfl rfl
@[go_sem] theorem c7B (s : ByteArray) : a0r (.str s) = (.str s) := nrfl rfl
@[go_sem] theorem c6t (s : ByteArray) : V.cells (.sc (.str s)) = [(.str s)] := nrfl rfl
@[go_sem] theorem c5E (s : ByteArray) (vs : List V) : shapes (.sc (.str s) :: vs) = (shapes vs).map (none :: ·) := nrfl rfl
@[go_sem] theorem c8S (k : SK) (es : Nat) (l : List (List C)) : a0r (.sl k es l) = (.sl k es l) := nrfl rfl
@[go_sem] theorem c8b (k : SK) (es : Nat) (l : List (List C)) : V.cells (.sc (.sl k es l)) = [(.sl k es l)] := nrfl rfl
@[go_sem] theorem c7f (k : SK) (es : Nat) (l : List (List C)) (vs : List V) : shapes (.sc (.sl k es l) :: vs) = (shapes vs).map (none :: ·) := nrfl rfl
@[go_sem] theorem c5V (ka va : Bool) (l : List (List C × List C)) : a0r (.imap ka va l) = (.imap ka va l) := nrfl rfl
@[go_sem] theorem c3y (ka va : Bool) (l : List (List C × List C)) : V.cells (.sc (.imap ka va l)) = [(.imap ka va l)] := nrfl rfl
@[go_sem] theorem c2X (ka va : Bool) (l : List (List C × List C)) (vs : List V) : shapes (.sc (.imap ka va l) :: vs) = (shapes vs).map (none :: ·) := nrfl rfl
@[go_sem] theorem c5T (cs : List C) (off : Nat) : a0r (.eptr cs off) = (.eptr cs off) := nrfl rfl
@[go_sem] theorem c3x (cs : List C) (off : Nat) : V.cells (.sc (.eptr cs off)) = [(.eptr cs off)] := nrfl rfl
@[go_sem] theorem c2W (cs : List C) (off : Nat) (vs : List V) : shapes (.sc (.eptr cs off) :: vs) = (shapes vs).map (none :: ·) := nrfl rfl
@[go_sem] theorem c8R (f : Fk) (sh : List (Option Nat)) (first cap : List C) : a0r (.fn f sh first cap) = (.fn f sh first cap) := nrfl rfl
@[go_sem] theorem c8a (f : Fk) (sh : List (Option Nat)) (first cap : List C) : V.cells (.sc (.fn f sh first cap)) = [(.fn f sh first cap)] := nrfl rfl
@[go_sem] theorem c7e (f : Fk) (sh : List (Option Nat)) (first cap : List C) (vs : List V) : shapes (.sc (.fn f sh first cap) :: vs) = (shapes vs).map (none :: ·) := nrfl rfl
@[go_sem] theorem c5W  : a0r .nilf = .nilf := nrfl rfl
@[go_sem] theorem c3A  : V.cells (.sc .nilf) = [.nilf] := nrfl rfl
@[go_sem] theorem c2Z  (vs : List V) : shapes (.sc .nilf :: vs) = (shapes vs).map (none :: ·) := nrfl rfl
@[go_sem] theorem c5Y  : a0r .nilp = .nilp := nrfl rfl
@[go_sem] theorem c3C  : V.cells (.sc .nilp) = [.nilp] := nrfl rfl
@[go_sem] theorem c3b  (vs : List V) : shapes (.sc .nilp :: vs) = (shapes vs).map (none :: ·) := nrfl rfl
@[go_sem] theorem c5X  : a0r .nili = .nili := nrfl rfl
@[go_sem] theorem c3B  : V.cells (.sc .nili) = [.nili] := nrfl rfl
@[go_sem] theorem c3a  (vs : List V) : shapes (.sc .nili :: vs) = (shapes vs).map (none :: ·) := nrfl rfl
@[go_sem] theorem c7A (r off : Nat) : a0r (.ptr r off) = (.ptr r off) := nrfl rfl
@[go_sem] theorem c6s (r off : Nat) : V.cells (.sc (.ptr r off)) = [(.ptr r off)] := nrfl rfl
@[go_sem] theorem c5C (r off : Nat) (vs : List V) : shapes (.sc (.ptr r off) :: vs) = (shapes vs).map (none :: ·) := nrfl rfl
@[go_sem] theorem c7x (r : Nat) : a0r (.map r) = (.map r) := nrfl rfl
@[go_sem] theorem c6p (r : Nat) : V.cells (.sc (.map r)) = [(.map r)] := nrfl rfl
@[go_sem] theorem c5z (r : Nat) (vs : List V) : shapes (.sc (.map r) :: vs) = (shapes vs).map (none :: ·) := nrfl rfl
@[go_sem] theorem c7y (r off len cap es : Nat) : a0r (.msl r off len cap es) = (.msl r off len cap es) := nrfl rfl
@[go_sem] theorem c6q (r off len cap es : Nat) : V.cells (.sc (.msl r off len cap es)) = [(.msl r off len cap es)] := nrfl rfl
@[go_sem] theorem c5A (r off len cap es : Nat) (vs : List V) : shapes (.sc (.msl r off len cap es) :: vs) = (shapes vs).map (none :: ·) := nrfl rfl
@[go_sem] theorem c3h (r i : Nat) : a0r (.stamp r i) = (.stamp r i) := nrfl rfl
@[go_sem] theorem c2G (r i : Nat) : V.cells (.sc (.stamp r i)) = [(.stamp r i)] := nrfl rfl
@[go_sem] theorem c2t (r i : Nat) (vs : List V) : shapes (.sc (.stamp r i) :: vs) = (shapes vs).map (none :: ·) := nrfl rfl
@[go_sem] theorem c7z (es : Nat) (l : List (List C)) : a0r (.own es l) = .sl .shared es l := nrfl rfl
@[go_sem] theorem c6r (es : Nat) (l : List (List C)) : V.cells (.sc (.own es l)) = [.own es l] := nrfl rfl
@[go_sem] theorem c9E (k : IntKind) (m : Int) (b' : Nat) (h : List Obj) (n : Nat) : frz b' h (n + 1) (.int k m) = some (.int k m) := nrfl rfl
@[go_sem] theorem c8F (k : IntKind) (n : Int) : C.pure (.int k n) = true := nrfl rfl
@[go_sem] theorem c7o (k : IntKind) (n : Int) (m : Nat) : C.under m (.int k n) = true := nrfl rfl
@[go_sem] theorem c8k (b : Bool) (b' : Nat) (h : List Obj) (n : Nat) : frz b' h (n + 1) (.bool b) = some (.bool b) := nrfl rfl
@[go_sem] theorem c6S (b : Bool) : C.pure (.bool b) = true := nrfl rfl
@[go_sem] theorem c5I (b : Bool) (m : Nat) : C.under m (.bool b) = true := nrfl rfl
@[go_sem] theorem c9J (s : ByteArray) (b' : Nat) (h : List Obj) (n : Nat) : frz b' h (n + 1) (.str s) = some (.str s) := nrfl rfl
@[go_sem] theorem c8K (s : ByteArray) : C.pure (.str s) = true := nrfl rfl
@[go_sem] theorem c7u (s : ByteArray) (m : Nat) : C.under m (.str s) = true := nrfl rfl
@[go_sem] theorem d0A (k : SK) (es : Nat) (l : List (List C)) (b' : Nat) (h : List Obj) (n : Nat) : frz b' h (n + 1) (.sl k es l) = some (.sl k es l) := nrfl rfl
@[go_sem] theorem c9T (k : SK) (es : Nat) (l : List (List C)) : C.pure (.sl k es l) = true := nrfl rfl
@[go_sem] theorem c8Q (k : SK) (es : Nat) (l : List (List C)) (m : Nat) : C.under m (.sl k es l) = true := nrfl rfl
@[go_sem] theorem c8m (ka va : Bool) (l : List (List C × List C)) (b' : Nat) (h : List Obj) (n : Nat) : frz b' h (n + 1) (.imap ka va l) = some (.imap ka va l) := nrfl rfl
@[go_sem] theorem c6U (ka va : Bool) (l : List (List C × List C)) : C.pure (.imap ka va l) = true := nrfl rfl
@[go_sem] theorem c5K (ka va : Bool) (l : List (List C × List C)) (m : Nat) : C.under m (.imap ka va l) = true := nrfl rfl
@[go_sem] theorem c8l (cs : List C) (off : Nat) (b' : Nat) (h : List Obj) (n : Nat) : frz b' h (n + 1) (.eptr cs off) = some (.eptr cs off) := nrfl rfl
@[go_sem] theorem c6T (cs : List C) (off : Nat) : C.pure (.eptr cs off) = true := nrfl rfl
@[go_sem] theorem c5J (cs : List C) (off : Nat) (m : Nat) : C.under m (.eptr cs off) = true := nrfl rfl
@[go_sem] theorem c8o  (b' : Nat) (h : List Obj) (n : Nat) : frz b' h (n + 1) .nilf = some .nilf := nrfl rfl
@[go_sem] theorem c6V  : C.pure .nilf = true := nrfl rfl
@[go_sem] theorem c5N  (m : Nat) : C.under m .nilf = true := nrfl rfl
@[go_sem] theorem c8q  (b' : Nat) (h : List Obj) (n : Nat) : frz b' h (n + 1) .nilp = some .nilp := nrfl rfl
@[go_sem] theorem c6X  : C.pure .nilp = true := nrfl rfl
@[go_sem] theorem c5P  (m : Nat) : C.under m .nilp = true := nrfl rfl
@[go_sem] theorem c8p  (b' : Nat) (h : List Obj) (n : Nat) : frz b' h (n + 1) .nili = some .nili := nrfl rfl
@[go_sem] theorem c6W  : C.pure .nili = true := nrfl rfl
@[go_sem] theorem c5O  (m : Nat) : C.under m .nili = true := nrfl rfl
@[go_sem] theorem c9H (b : Nat) (h : List Obj) (n es : Nat) (l : List (List C)) : frz b h (n + 1) (.own es l) = some (.sl .shared es l) := nrfl rfl
@[go_sem] theorem c9I (b : Nat) (h : List Obj) (n r off : Nat) : frz b h (n + 1) (.ptr r off) = br (decide (r < b)) (some (.ptr r off)) (a8j (h[r]?) fun cs => a0L (frzL b h n cs) fun cs => br (C.a0v cs) (some (.eptr cs off)) none) := by
  simp only [frz]
  by_cases hc : r < b
  · simp [hc]
  · simp only [hc, if_false, decide_false, a4r]
    cases h[r]? with
    | none => rfl
    | some o => cases o with
      | var cs => simp only [a5U]; cases frzL b h n cs with
                  | none => rfl
                  | some cs => simp only [a1K]; cases C.a0v cs <;> rfl
      | _ => rfl
@[go_sem] theorem c9F (b : Nat) (h : List Obj) (n r : Nat) : frz b h (n + 1) (.map r) = br (decide (r < b)) (some (.map r)) (match h[r]? with | some (.map ka va l none) => some (.imap ka va l) | some (.set n f) => some (.iset n f) | _ => none) := by
 simp only [frz]
 by_cases hc : r < b
 ·simp [hc]
 ·simp only [hc, if_false, decide_false, a4r]; rfl
@[go_sem] theorem c9G (b : Nat) (h : List Obj) (n r off len cap es : Nat) : frz b h (n + 1) (.msl r off len cap es) = br (decide (r < b)) (some (.msl r off len cap es)) (a8j (h[r]?) fun cs => a0L (frzL b h n cs) fun cs => br (C.a0v cs) ((chunks cs off es len).map fun l => .sl (if cap = len /\ cap ≠ 0 then .full else .shared) es l) none) := by
  simp only [frz]
  by_cases hc : r < b
  · simp [hc]
  · simp only [hc, if_false, decide_false, a4r]
    cases h[r]? with
    | none => rfl
    | some o => cases o with
      | var cs => simp only [a5U]; cases frzL b h n cs with
                  | none => rfl
                  | some cs => simp only [a1K]; cases C.a0v cs <;> rfl
      | _ => rfl
@[go_sem] theorem d0z (b : Nat) (h : List Obj) (n id : Nat) (sh : List (Option Nat)) (first cap : List C) : frz b h (n + 1) (.fn (.fn id) sh first cap) = a0L (frzL b h n first) fun a => a0L (frzL b h n cap) fun d => some (.fn (.fn id) sh a d) := by
 simp only [frz]
 cases frzL b h n first with
 | none => rfl
 | some a => simp only [a1K]; cases frzL b h n cap <;> rfl
@[go_sem] theorem c8i (b : Nat) (h : List Obj) (n : Nat) : frzL b h (n + 1) [] = some [] := by simp [frzL]
@[go_sem] theorem c6x (b : Nat) (h : List Obj) (n : Nat) (c : C) (cs : List C) : frzL b h (n + 1) (c :: cs) = a0L (frz b h n c) fun c => a0L (frzL b h n cs) fun cs => some (c :: cs) := by
 simp only [frzL]
 cases frz b h n c with
 | none => rfl
 | some c => simp only [a1K]; cases frzL b h n cs <;> rfl
@[go_sem] theorem c9D (b : Nat) (h : List Obj) (c : C) : frzV b h (.sc c) = (frz b h 64 c).map .sc := nrfl rfl
@[go_sem] theorem c8j (b : Nat) (h : List Obj) (cs : List C) : frzV b h (.agg cs) = (frzL b h 128 cs).map .agg := nrfl rfl
@[go_sem] theorem c6y (b : Nat) (h : List Obj) : a4X b h [] = some [] := nrfl rfl
@[go_sem] theorem c3I (b : Nat) (h : List Obj) (v : V) (vs : List V) : a4X b h (v :: vs) = a0L (frzV b h v) fun v => a0L (a4X b h vs) fun vs => some (v :: vs) := by
 simp only [a4X]
 cases frzV b h v with
 | none => rfl
 | some v => simp only [a1K]; cases a4X b h vs <;> rfl
@[go_sem] theorem c8J (r off : Nat) : C.pure (.ptr r off) = false := nrfl rfl
@[go_sem] theorem c8G (r : Nat) : C.pure (.map r) = false := nrfl rfl
@[go_sem] theorem c8H (r off len cap es : Nat) : C.pure (.msl r off len cap es) = false := nrfl rfl
@[go_sem] theorem c8I (es : Nat) (l : List (List C)) : C.pure (.own es l) = false := nrfl rfl
@[go_sem] theorem c9S (id : Nat) (sh : List (Option Nat)) (first cap : List C) : C.pure (.fn (.fn id) sh first cap) = (C.a0v first && C.a0v cap) := by simp [C.pure]
@[go_sem] theorem c7s (m r off : Nat) : C.under m (.ptr r off) = decide (r < m) := nrfl rfl
@[go_sem] theorem c7p (m r : Nat) : C.under m (.map r) = decide (r < m) := nrfl rfl
@[go_sem] theorem c7q (m r off len cap es : Nat) : C.under m (.msl r off len cap es) = decide (r < m) := nrfl rfl
@[go_sem] theorem c7r (m es : Nat) (l : List (List C)) : C.under m (.own es l) = true := nrfl rfl
@[go_sem] theorem c7v (m : Nat) : C.under m .top = true := nrfl rfl
@[go_sem] theorem c8P (m id : Nat) (sh : List (Option Nat)) (first cap : List C) : C.under m (.fn (.fn id) sh first cap) = (C.a0G m first && C.a0G m cap) := by simp [C.under]
@[go_sem] theorem c3e (m l : Nat) (sh : List (Option Nat)) (first cap : List C) : C.under m (.fn (.yield l) sh first cap) = (decide (l < m) && C.a0G m first && C.a0G m cap) := by simp [C.under]
@[go_sem] theorem c5H (m : Nat) : C.a0G m [] = true := nrfl rfl
@[go_sem] theorem c3c (m : Nat) (c : C) (cs : List C) : C.a0G m (c :: cs) = (C.under m c && C.a0G m cs) := nrfl rfl
@[go_sem] theorem c6R : C.a0v [] = true := nrfl rfl
@[go_sem] theorem c5u (c : C) (cs : List C) : C.a0v (c :: cs) = (C.pure c && C.a0v cs) := nrfl rfl
@[go_sem] theorem c7Z (c : C) : V.pure (.sc c) = c.pure := nrfl rfl
@[go_sem] theorem c6j (cs : List C) : V.pure (.agg cs) = C.a0v cs := nrfl rfl
@[go_sem] theorem c6k (m : Nat) (c : C) : V.under m (.sc c) = c.under m := by simp [V.under]
@[go_sem] theorem c3r (m : Nat) (cs : List C) : V.under m (.agg cs) = C.a0G m cs := by simp [V.under]
@[go_sem] theorem c3s (m : Nat) (vs : List V) : V.under m (.tup vs) = V.a2I m vs := by simp [V.under]
@[go_sem] theorem c2F (m : Nat) : V.a2I m [] = true := by simp [V.a2I]
@[go_sem] theorem c1O (m : Nat) (v : V) (vs : List V) : V.a2I m (v :: vs) = (v.under m && V.a2I m vs) := by simp [V.a2I]
@[go_sem] theorem c3p (m : Nat) (cs : List C) : Obj.under m (.var cs) = C.a0G m cs := nrfl rfl
@[go_sem] theorem c2B (m : Nat) : Obj.under m .dead = true := nrfl rfl
@[go_sem] theorem c2C (m : Nat) : Obj.under m .free = true := nrfl rfl
@[go_sem] theorem c3o (m : Nat) (ka va : Bool) (l : List (List C × List C)) (ph : Option (List C × List C)) : Obj.under m (.map ka va l ph) = true := nrfl rfl
@[go_sem] theorem c2E (m : Nat) (st : LS) (pend : Option Ex) (t : List (Nat × V)) (ps : List Nat) (a b : AC) : Obj.under m (.loop st pend t ps a b) = t.all fun p => p.2.under m := nrfl rfl
@[go_sem] theorem c6l (c : C) : V.a0r (.sc c) = .sc (a0r c) := nrfl rfl
@[go_sem] theorem c3t (cs : List C) : V.a0r (.agg cs) = .agg cs := nrfl rfl
@[go_sem] theorem c3u (vs : List V) : V.a0r (.tup vs) = .tup vs := nrfl rfl
@[go_sem] theorem c6n (cs : List C) : V.cells (.agg cs) = cs := nrfl rfl
@[go_sem] theorem c8s (c : C) : V.isAgg (.sc c) = false := nrfl rfl
@[go_sem] theorem c6z (cs : List C) : V.isAgg (.agg cs) = true := nrfl rfl
@[go_sem] theorem c5B : shapes [] = some [] := nrfl rfl
@[go_sem] theorem c5x (cs : List C) (vs : List V) : shapes (.agg cs :: vs) = (shapes vs).map (some cs.length :: ·) := nrfl rfl
section
variable (Γ : Env) (t : List (Nat × V)) (i j : Nat) (v : V) (h : List Obj)
@[go_sem] theorem rd_t : rd Γ t (.t i) = (get t i).a0r := nrfl rfl
@[go_sem] theorem d1f : rd Γ t (.tk i) = get t i := nrfl rfl
@[go_sem] theorem rd_k : rd Γ t (.k v) = v := nrfl rfl
@[go_sem] theorem rd_f : rd Γ t (.f i) = .sc (.fn (.fn i) [] [] []) := nrfl rfl
@[go_sem] theorem rd_g : rd Γ t (.g i) = .sc (.eptr (Γ.glob i) 0) := nrfl rfl
@[go_sem] theorem c8r : get ((j, v) :: t) i = if j = i then v else get t i := nrfl rfl
@[go_sem] theorem c6Z : put1 (some i) v t = (i, v) :: t := nrfl rfl
@[go_sem] theorem c6Y : put1 none v t = t := nrfl rfl
@[go_sem] theorem c6v : Pm.drop [] t = t := nrfl rfl
@[go_sem] theorem drop_cons (l : List Nat) : Pm.drop (i :: l) t = Pm.drop l ((i, (get t i).a0r) :: t) := nrfl rfl
@[go_sem] theorem c9Y : Rand.takes (.t i) = [] := nrfl rfl
@[go_sem] theorem c8O : Rand.takes (.tk i) = [i] := nrfl rfl
@[go_sem] theorem c9X : Rand.takes (.k v) = [] := nrfl rfl
@[go_sem] theorem c9V : Rand.takes (.f i) = [] := nrfl rfl
@[go_sem] theorem c9W : Rand.takes (.g i) = [] := nrfl rfl
@[go_sem] theorem c2p : restrict [] t = [] := nrfl rfl
@[go_sem] theorem c1G (l : List Nat) : restrict (i :: l) t = (i, get t i) :: restrict l t := nrfl rfl
@[go_sem] theorem c3S : number i [] = [] := nrfl rfl
@[go_sem] theorem c2K (vs : List V) : number i (v :: vs) = (i, v) :: number (i + 1) vs := nrfl rfl
@[go_sem] theorem c2S : results ⟨t, h⟩ [] = some [] := nrfl rfl
@[go_sem] theorem c1H (ps : List (Nat × Option (Option Nat))) : results ⟨t, h⟩ ((i, none) :: ps) = a0L (results ⟨t, h⟩ ps) fun vs => some ((get t i).a0r :: vs) := by
 simp only [results, a7K]
 cases results ⟨t, h⟩ ps <;> rfl
@[go_sem] theorem c1I (n : Option Nat) (ps : List (Nat × Option (Option Nat))) : results ⟨t, h⟩ ((i, some n) :: ps) = a7w (get t i) (fun r off => a8j (h[r]?) fun cs => a0L (a1t cs off n) fun v => a0L (results ⟨t, h⟩ ps) fun vs => some (v :: vs)) (fun _ _ => none) := by
  simp only [results, a7K]
  cases get t i with
  | sc c => cases c with
    | ptr r off =>
      simp only [a6b]
      cases h[r]? with
      | none => rfl
      | some o => cases o with
        | var cs => simp only [a5U]; cases a1t cs off n with
                    | none => rfl
                    | some v => simp only [a1K]; cases results ⟨t, h⟩ ps <;> rfl
        | _ => rfl
    | _ => rfl
  | _ => rfl
@[go_sem] theorem c7m : tuple [v] = v := nrfl rfl
@[go_sem] theorem c7l : tuple [] = .tup [] := nrfl rfl
@[go_sem] theorem c7n (a b : V) (l : List V) : tuple (a :: b :: l) = .tup (a :: b :: l) := nrfl rfl
@[go_sem] theorem c6w : frozen i ⟨t, h⟩ = a7w (get t i) (fun r off => a8j (h[r]?) fun cs => br (C.a0v (cs.map a0r)) (some ⟨(i, .sc (.eptr (cs.map a0r) off)) :: t, h.set r .dead⟩) none) (fun _ _ => none) := by
 simp only [frozen]
 cases get t i with
 | sc c => cases c with
  | ptr r off =>
   simp only [a6b]
   cases h[r]? with
   | none => rfl
   | some o => cases o with
    | var cs => simp only [a5U]; cases C.a0v (cs.map a0r) <;> rfl
    | _ => rfl
  | _ => rfl
 | _ => rfl
@[go_sem] theorem d0a (keep : List Nat) (n : Nat) : trim keep n ⟨t, h⟩ = br ((restrict keep t).all (fun p => p.2.under n) && (h.take n).all (Obj.under n)) (some ⟨restrict keep t, h.take n⟩) none := by
 simp only [trim]
 cases (restrict keep t).all (fun p => p.2.under n) <;> cases (h.take n).all (Obj.under n) <;> simp [br]
end
section
variable (k : IntKind) (x y : Int)
@[go_sem] theorem c9o : bin .add (.sc (.int k x)) (.sc (.int k y)) = some (.int k (k.wrap (x + y))) := by simp [bin, arith]
@[go_sem] theorem c9B : bin .sub (.sc (.int k x)) (.sc (.int k y)) = some (.int k (k.wrap (x - y))) := by simp [bin, arith]
@[go_sem] theorem c9v : bin .mul (.sc (.int k x)) (.sc (.int k y)) = some (.int k (k.wrap (x * y))) := by simp [bin, arith]
@[go_sem] theorem c9x : bin .quo (.sc (.int k x)) (.sc (.int k y)) = br (decide (y = 0)) none (some (.int k (k.wrap (x.tdiv y)))) := by
 by_cases h : y = 0 <;> simp [bin, arith, h]
@[go_sem] theorem c9y : bin .rem (.sc (.int k x)) (.sc (.int k y)) = br (decide (y = 0)) none (some (.int k (x.tmod y))) := by
 by_cases h : y = 0 <;> simp [bin, arith, h]
@[go_sem] theorem c9q : bin .eql (.sc (.int k x)) (.sc (.int k y)) = some (.bool (decide (x = y))) := by simp [bin, arith, BEq.beq]
@[go_sem] theorem c9w : bin .neq (.sc (.int k x)) (.sc (.int k y)) = some (.bool (!decide (x = y))) := by simp [bin, arith, bne, BEq.beq]
@[go_sem] theorem c9u : bin .lss (.sc (.int k x)) (.sc (.int k y)) = some (.bool (decide (x < y))) := by simp [bin, arith]
@[go_sem] theorem c9t : bin .leq (.sc (.int k x)) (.sc (.int k y)) = some (.bool (decide (x <= y))) := by simp [bin, arith]
@[go_sem] theorem c9s : bin .gtr (.sc (.int k x)) (.sc (.int k y)) = some (.bool (decide (y < x))) := by simp [bin, arith]
@[go_sem] theorem c9r : bin .geq (.sc (.int k x)) (.sc (.int k y)) = some (.bool (decide (y <= x))) := by simp [bin, arith]
@[go_sem] theorem d0F : un .neg (.sc (.int k x)) = some (.int k (k.wrap (0 - x))) := nrfl rfl
@[go_sem] theorem d0G (b : Bool) : un .not (.sc (.bool b)) = some (.bool !b) := nrfl rfl
end
@[go_sem] theorem c1E (cs : List C) (off : Nat) : a1t cs off none = a0L (cs[off]?) fun c => some (.sc (a0r c)) := by
 simp only [a1t]; cases cs[off]? <;> rfl
@[go_sem] theorem c1F (cs : List C) (off n : Nat) : a1t cs off (some n) = a0L (a0R cs off n) fun l => some (.agg (l.map a0r)) := by
 simp only [a1t]; cases a0R cs off n <;> rfl
@[go_sem] theorem c1V (cs : List C) (off : Nat) : a0R cs off 0 = some [] := nrfl rfl
theorem a7O (cs : List C) (off n : Nat) : a0R cs off (n + 1) = a0L (cs[off]?) fun c => a0L (a0R cs (off + 1) n) fun l => some (c :: l) := by
 simp only [a0R]
 cases cs[off]? with
 | none => rfl
 | some c => simp only [a1K]; cases a0R cs (off + 1) n <;> rfl
@[go_sem] theorem a9P (c : C) (cs : List C) : ∀ (n k : Nat), a0R (c :: cs) (k + 1) n = a0R cs k n
 | 0, _ => rfl
 | n + 1, k => by rw [a7O, a7O, a9P c cs n (k + 1), List.getElem?_cons_succ]
@[go_sem] theorem c1T (c : C) (cs : List C) (n : Nat) : a0R (c :: cs) 0 (n + 1) = a0L (a0R cs 0 n) fun l => some (c :: l) := by
 rw [a7O, List.getElem?_cons_zero, a1K, a9P]
@[go_sem] theorem c5w (cs : List C) (off : Nat) : a1H cs off [] = cs := nrfl rfl
@[go_sem] theorem c2T (cs : List C) (off : Nat) (v : C) (vs : List C) : a1H cs off (v :: vs) = a1H (cs.set off v) (off + 1) vs := nrfl rfl
@[go_sem] theorem c1B (z : List C) : a3a z [] = some z := nrfl rfl
@[go_sem] theorem c0N (z : List C) (off n : Nat) (v : V) (r : List (Nat × Nat × V)) : a3a z ((off, n, v) :: r) = br (decide (v.cells.length = n /\ 0 < n /\ off + n <= z.length)) (a3a (a1H z off v.cells) r) none := by
 simp only [a3a]
 by_cases h : v.cells.length = n /\ 0 < n /\ off + n <= z.length <;> simp [h]
@[go_sem] theorem c1C (es : Nat) (l : List (List C)) : a2c es l [] = some l := nrfl rfl
@[go_sem] theorem c0O (es : Nat) (l : List (List C)) (i : Nat) (v : V) (r : List (Nat × V)) : a2c es l ((i, v) :: r) = br (decide (v.cells.length = es /\ i < l.length)) (a2c es (l.set i v.cells) r) none := by
 simp only [a2c]
 by_cases h : v.cells.length = es /\ i < l.length <;> simp [h]
@[go_sem] theorem c7k (id : Nat) (sh : List (Option Nat)) (first cap : List C) (args : List V) : target (.sc (.fn (.fn id) sh first cap)) args = a0L (a2F sh first) fun fs => some (.fn id, fs ++ args ++ cap.map .sc) := by
 simp only [target]; cases a2F sh first <;> rfl
@[go_sem] theorem c2x (l : Nat) (sh : List (Option Nat)) (first cap : List C) (args : List V) : target (.sc (.fn (.yield l) sh first cap)) args = some (.yield l, args) := nrfl rfl
@[go_sem] theorem c5R : a2F [] [] = some [] := nrfl rfl
@[go_sem] theorem c3f (sh : List (Option Nat)) (c : C) (cs : List C) : a2F (none :: sh) (c :: cs) = a0L (a2F sh cs) fun l => some (.sc c :: l) := by
 simp only [a2F]; cases a2F sh cs <;> rfl
@[go_sem] theorem c3g (n : Nat) (sh : List (Option Nat)) (cs : List C) : a2F (some n :: sh) cs = br (decide (n <= cs.length)) (a0L (a2F sh (cs.drop n)) fun l => some (.agg (cs.take n) :: l)) none := by
 simp only [a2F]
 by_cases h : n <= cs.length
 ·simp only [h, if_true, decide_true, a4R]; cases a2F sh (cs.drop n) <;> rfl
 ·simp [h]
@[go_sem] theorem c6m (h : List Obj) (v : V) : alone h (v, []) = some (v, h) := nrfl rfl
@[go_sem] theorem c6D : a0c [] [] [] = some true := nrfl rfl
@[go_sem] theorem c2J (t : Nat) (ts : List Nat) (c d : C) (cs ds : List C) : a0c (t :: ts) (c :: cs) (d :: ds) = a0L (a0g t c d) fun a => a0L (a0c ts cs ds) fun b => some (a && b) := by
 simp only [a0c]
 cases a0g t c d with
 | none => rfl
 | some a => simp only [a1K]; cases a0c ts cs ds <;> rfl
@[go_sem] theorem c5F (a b : Bool) : a0g 0 (.bool a) (.bool b) = some (a == b) := nrfl rfl
@[go_sem] theorem c7i (k : IntKind) (a b : Int) : a0g 1 (.int k a) (.int k b) = some (decide (a = b)) := by simp [a0g, BEq.beq]
@[go_sem] theorem c7j (a b : ByteArray) : a0g 2 (.str a) (.str b) = some (a == b) := nrfl rfl
@[go_sem] theorem c6G (k : IntKind) (x : Int) : minOf k x [] = some (.int k x) := nrfl rfl
@[go_sem] theorem c3R (k k' : IntKind) (x y : Int) (r : List V) : minOf k x (.sc (.int k' y) :: r) = minOf k (min x y) r := by
 simp only [minOf]; congr 1; omega
@[go_sem] theorem c6E (k : IntKind) (x : Int) : maxOf k x [] = some (.int k x) := nrfl rfl
@[go_sem] theorem c3P (k k' : IntKind) (x y : Int) (r : List V) : maxOf k x (.sc (.int k' y) :: r) = maxOf k (max x y) r := by
 simp only [maxOf]; congr 1; omega
mutual
theorem b5B (n : Nat) : ∀ c : C, c.pure = true -> c.under n = true
 | .int _ _, _ | .bool _, _ | .str _, _ | .sl _ _ _, _ | .imap _ _ _, _ | .iset _ _, _ | .eptr _ _, _ | .nilf, _ | .nilp, _ | .nili, _ | .top, _ => by simp [C.under]
 | .own _ _, h | .ptr _ _, h | .map _, h | .msl _ _ _ _ _, h | .stamp _ _, h => by simp [C.pure] at h
 | .fn f sh first cap, h => by
  simp only [C.pure, Bool.and_eq_true] at h
  simp only [C.under, Bool.and_eq_true]
  refine ⟨⟨?_, a0C n first h.1.2⟩, a0C n cap h.2⟩
  cases f with
  | fn => rfl
  | yield => simp at h
theorem a0C (n : Nat) : ∀ cs : List C, C.a0v cs = true -> C.a0G n cs = true
 | [], _ => rfl
 | c :: cs, h => by
  simp only [C.a0v, Bool.and_eq_true] at h
  simp only [C.a0G, Bool.and_eq_true]
  exact ⟨b5B n c h.1, a0C n cs h.2⟩
end
theorem wrap_i64 {x : Int} (h1 : -9223372036854775808 <= x) (h2 : x <= 9223372036854775807) : IntKind.i64.wrap x = x := by
 have e1 : IntKind.i64.bits = 64 := rfl
 have e2 : IntKind.i64.signed = true := rfl
 simp only [IntKind.wrap, e1, e2, Bool.true_and, decide_eq_true_eq]
 split <;> omega
attribute [go_sem] fin Int.lt_irrefl Nat.lt_irrefl List.length_nil List.length_cons List.nil_append List.cons_append List.append_nil Nat.zero_add Nat.add_zero Option.map_some List.take_nil List.take_zero List.take_succ_cons List.all_nil List.all_cons List.getElem?_cons_zero List.getElem?_cons_succ List.set_cons_zero List.set_cons_succ List.map_nil List.map_cons List.replicate_zero List.replicate_succ List.flatMap_nil List.flatMap_cons Bool.and_true Bool.true_and Bool.and_false Bool.false_and Bool.and_self Bool.not_true Bool.not_false Bool.xor_false Bool.false_xor Bool.true_xor decide_true decide_false and_self and_true true_and Option.map_none Nat.zero_mul Nat.mul_one
abbrev vi (n : Int) : V := .sc (.int .i64 n)
abbrev vb (b : Bool) : V := .sc (.bool b)
abbrev ci (n : Int) : C := .int .i64 n
attribute [go_sem] Int.toNat_natCast wrap_i64 List.length_map List.getElem?_map Option.map_some Option.map_none List.all_cons List.all_nil List.isEmpty_nil Bool.and_self Bool.true_and Bool.and_true
end Go.Pm
namespace Go.Pm
open Go
section
variable {β : Type} (Γ : Env)
@[go_sem high] theorem c8X (nal : Nat) (ops : List Oper) (keep : List Nat) (s : St) (Q : Ex -> St -> Option β) (hc : (ops.all fun o => o.conf.isEmpty) = true) :
 E Γ (.region nal ops true keep) s Q = R Γ s.h.length ops { t := s.t, h := s.h ++ List.replicate nal .free } fun s => Q .norm { t := restrict keep s.t, h := s.h } := by
 rw [c1K]
 have key : ∀ (os : List Oper) (s : St) (l : List (Nat × Acc)) (k : St -> Option β) (base : Nat), (os.all fun o => o.conf.isEmpty) = true -> RT0 Γ base os s l k = R0 Γ base os s k := by
  intro os
  induction os with
  | nil => intros; rfl
  | cons o os ih =>
   intro s l k base hc
   obtain ⟨ix, d, op, g, cf⟩ := o
   simp only [List.all_cons, Bool.and_eq_true, List.isEmpty_iff] at hc
   obtain ⟨rfl, hc⟩ := hc
   unfold RT0 R0 P1
   simp only [List.all_nil, if_true, ih _ _ _ _ hc]
 exact key _ _ _ _ _ hc
@[go_sem] theorem c8x {α : Type} (b : Bool) (x y : Option α) (f : α -> Option β) : a0L (br b x y) f = br b (a0L x f) (a0L y f) := by cases b <;> rfl
/-! ### Loops that seek -/
def a0z {α : Type} (p : Nat -> α -> Bool) : Nat -> List α -> Option (Nat × α)
 | _, [] => none
 | n, x :: l => if p n x then some (n, x) else a0z p (n + 1) l
theorem a2L {α : Type} {p : Nat -> α -> Bool} : ∀ {l : List α} {n : Nat}, a0z p n l = none <-> ∀ i x, l[i]? = some x -> p (n + i) x = false
 | [], _ => by simp [a0z]
 | x :: l, n => by
  cases h : p n x with
  | true =>
   simp only [a0z, h, if_true]
   constructor
   ·intro h; cases h
   ·intro hh; have := hh 0 x rfl; rw [Nat.add_zero, h] at this; cases this
  | false =>
   have := a2L (p := p) (l := l) (n := n + 1)
   simp only [a0z, h, Bool.false_eq_true, if_false]
   rw [this]
   constructor
   ·intro hh i y hy
    cases i with
    | zero => simp at hy; subst hy; exact h
    | succ i => have := hh i y (by simpa using hy); rwa [show n + (i + 1) = n + 1 + i by omega]
   ·intro hh i y hy
    have := hh (i + 1) y (by simpa using hy); rwa [show n + 1 + i = n + (i + 1) by omega]
theorem a3F {α : Type} {p : Nat -> α -> Bool} : ∀ {l : List α} {n : Nat} {i : Nat} {x : α}, a0z p n l = some (i, x) -> n <= i /\ l[i - n]? = some x /\ p i x = true /\ ∀ j y, j < i - n -> l[j]? = some y -> p (n + j) y = false
 | [], _, _, _, h => by cases h
 | y :: l, n, i, x, h => by
  cases hp : p n y with
  | true =>
   simp only [a0z, hp, if_true, Option.some.injEq, Prod.mk.injEq] at h
   obtain ⟨rfl, rfl⟩ := h
   simp only [Nat.sub_self]
   exact ⟨Nat.le_refl _, rfl, hp, fun j y hj => by omega⟩
  | false =>
   simp only [a0z, hp, Bool.false_eq_true, if_false] at h
   obtain ⟨h1, h2, h3, h4⟩ := a3F h
   refine ⟨by omega, ?_, h3, ?_⟩
   ·rw [show i - n = (i - (n + 1)) + 1 by omega]; simpa using h2
   ·intro j z hj hz
    cases j with
    | zero => simp at hz; subst hz; exact hp
    | succ j =>
     have := h4 j z (by omega) (by simpa using hz)
     rwa [show n + (j + 1) = n + 1 + j by omega]
theorem a4L {Γ : Env} {α : Type} {keep : List Nat} {B : AC} (S : Nat -> St) (l : List α) (p : Nat -> α -> Bool) (R : Nat -> α -> Ex × St) (T : Ex × St) (Q : Ex -> St -> Option β)
 (hstep : ∀ (i : Nat) x, l[i]? = some x -> p i x = false -> E Γ B (S i) (fun e s1 => match e with | .norm => trim keep (S i).h.length s1 | _ => none) = some (S (i + 1)))
 (hexit : ∀ (i : Nat) x, l[i]? = some x -> p i x = true -> E Γ B (S i) (fun e s1 => match e with | .norm => none | e => some (e, s1)) = some (R i x))
 (hend : E Γ B (S l.length) (fun e s1 => match e with | .norm => none | e => some (e, s1)) = some T) :
 E Γ (.loop keep B) (S 0) Q = match a0z p 0 l with | some (i, x) => Q (R i x).1 (R i x).2 | none => Q T.1 T.2 := by
 rw [b5G (fun i (_ : Unit) => S i) l (fun i _ x => if p i x then .inr (R i x) else .inl ()) (fun _ => T) Q (fun i a x a' hx hf => by
  cases h : p i x with
  | true => simp [h] at hf
  | false => exact hstep i x hx h) (fun i a x r hx hf => by
  cases h : p i x with
  | true => simp only [h, if_true, Sum.inr.injEq] at hf; subst hf; exact hexit i x hx h
  | false => simp [h] at hf) (fun _ => hend) ()]
 have key : ∀ (m : List α) (n : Nat), a4N (fun i (_ : Unit) x => if p i x then .inr (R i x) else .inl ()) (fun _ => T) n () m = match a0z p n m with | some (i, x) => R i x | none => T := by
  intro m
  induction m with
  | nil => intro n; rfl
  | cons x m ih =>
   intro n
   cases h : p n x with
   | true => simp [a4N, a0z, h]
   | false => simp only [a4N, a0z, h, Bool.false_eq_true, if_false]; exact ih (n + 1)
 rw [key]
 cases a0z p 0 l <;> rfl
theorem b0t {Γ : Env} {σ : Type} {keep : List Nat} {B : AC} (m : Nat) (S : Nat -> σ -> St) (I : Nat -> σ -> Prop) (T : σ -> Ex × St) {Q : Ex -> St -> Option β} {r : Option β} (a : σ)
 (h0 : I 0 a)
 (hstep : ∀ i a, i < m -> I i a -> ∃ a', I (i + 1) a' /\ E Γ B (S i a) (fun e s1 => match e with | .norm => trim keep (S i a).h.length s1 | _ => none) = some (S (i + 1) a'))
 (hend : ∀ a, I m a -> E Γ B (S m a) (fun e s1 => match e with | .norm => none | e => some (e, s1)) = some (T a))
 (hQ : ∀ a, I m a -> Q (T a).1 (T a).2 = r) : E Γ (.loop keep B) (S 0 a) Q = r := by
 have main : ∀ (j i : Nat) (a : σ), i + j = m -> I i a -> ∃ b, I m b /\ X Γ (.loop keep B) (S i a) = some (T b) := by
  intro j
  induction j with
  | zero =>
   intro i a hi hI
   obtain rfl : i = m := by omega
   exact ⟨a, hI, a5y (hend a hI)⟩
  | succ j ih =>
   intro i a hi hI
   obtain ⟨a', hI', hE⟩ := hstep i a (by omega) hI
   obtain ⟨b, hb, hX⟩ := ih (i + 1) a' (by omega) hI'
   exact ⟨b, hb, by rw [a8x hE]; exact hX⟩
 obtain ⟨b, hb, hX⟩ := main m 0 a (by omega) h0
 rw [b3H hX]
 exact hQ b hb
theorem a4q {Γ : Env} {σ : Type} {keep : List Nat} {B : AC} (m : Nat) (S : Nat -> σ -> St) (I : Nat -> σ -> Prop) (T : σ -> Ex × St) {Q : Ex -> St -> Option β} {r : Option β} {s0 : St} (a : σ)
 (hs : s0 = S 0 a) (h0 : I 0 a)
 (hstep : ∀ i a, i < m -> I i a -> ∃ a', I (i + 1) a' /\ E Γ B (S i a) (fun e s1 => match e with | .norm => trim keep (S i a).h.length s1 | _ => none) = some (S (i + 1) a'))
 (hend : ∀ a, I m a -> E Γ B (S m a) (fun e s1 => match e with | .norm => none | e => some (e, s1)) = some (T a))
 (hQ : ∀ a, I m a -> Q (T a).1 (T a).2 = r) : E Γ (.loop keep B) s0 Q = r := by
 subst hs; exact b0t m S I T a h0 hstep hend hQ
/-! ### Heaps of which the first part is not looked at -/
section
variable (h : List Obj) (l m : List Obj) (n p q k : Nat) (v : Obj)
theorem b2M (hp : p < h.length) : (h ++ l)[p]? = h[p]? := List.getElem?_append_left hp
theorem b2L (hn : h.length = n) : (h ++ l)[n + k]? = l[k]? := by rw [List.getElem?_append_right (by omega)]; congr 1; omega
theorem b5P (hn : h.length = n) : (h ++ l)[n]? = l[0]? := b2L h l n 0 hn
theorem c0U (hp : p < h.length) : (h ++ l).set p v = h.set p v ++ l := List.set_append_left _ _ hp
theorem b5Q (hn : h.length = n) : (h ++ l).set (n + k) v = h ++ l.set k v := by rw [List.set_append_right _ _ (by omega)]; congr 2; omega
theorem c0T (hn : h.length = n) : (h ++ l).set n v = h ++ l.set 0 v := b5Q h l n 0 v hn
theorem b8X (hn : h.length = n) : (h ++ l).take (n + k) = h ++ l.take k := by rw [List.take_append]; simp [hn, List.take_of_length_le]
theorem b8W (hn : h.length = n) : (h ++ l).take n = h := by rw [List.take_append]; simp [hn, List.take_of_length_le]
theorem b1c (hp : p < h.length) : (h.set p v)[p]? = some v := by simp [hp]
theorem a0E : (∀ {α : Type} (a b c : List α), a ++ b ++ c = a ++ (b ++ c)) /\ (∀ {α : Type} (a : α) (b c : List α), (a :: b) ++ c = a :: (b ++ c)) /\ (∀ {α : Type} (a : List α), [] ++ a = a) /\ (∀ {α : Type} (a b : List α), (a ++ b).length = a.length + b.length) ∧
 (∀ {α : Type} (a : α) (b : List α), (a :: b).length = b.length + 1) /\ (∀ {α : Type}, ([] : List α).length = 0) /\ (∀ {α : Type} (a : List α) (i : Nat) (x : α), (a.set i x).length = a.length) ∧
 (∀ (h l : List Obj) (p : Nat), p < h.length -> (h ++ l)[p]? = h[p]?) /\ (∀ (h l : List Obj) (n k : Nat), h.length = n -> (h ++ l)[n + k]? = l[k]?) /\ (∀ (h l : List Obj) (n : Nat), h.length = n -> (h ++ l)[n]? = l[0]?) ∧
 (∀ (h l : List Obj) (p : Nat) (v : Obj), p < h.length -> (h ++ l).set p v = h.set p v ++ l) /\ (∀ (h l : List Obj) (n k : Nat) (v : Obj), h.length = n -> (h ++ l).set (n + k) v = h ++ l.set k v) /\ (∀ (h l : List Obj) (n : Nat) (v : Obj), h.length = n -> (h ++ l).set n v = h ++ l.set 0 v) ∧
 (∀ (h l : List Obj) (n k : Nat), h.length = n -> (h ++ l).take (n + k) = h ++ l.take k) /\ (∀ (h l : List Obj) (n : Nat), h.length = n -> (h ++ l).take n = h) /\ (∀ (h : List Obj) (p : Nat) (v : Obj), p < h.length -> (h.set p v)[p]? = some v) ∧
 (∀ {α : Type} (l : List α) (n : Nat) (a b : α), (l.set n a).set n b = l.set n b) /\ (∀ {α : Type} (l m : List α) (f : α -> Bool), (l ++ m).all f = (l.all f && m.all f)) /\ (∀ a b c : Nat, a + b + c = a + (b + c)) ∧
 (∀ {α : Type} (a : α) (l : List α) (n : Nat), (a :: l).take (n + 1) = a :: l.take n) /\ (∀ {α : Type} (l : List α), l.take 0 = []) /\ (∀ {α : Type} (n : Nat), ([] : List α).take n = []) :=
 ⟨List.append_assoc, fun _ _ _ => rfl, fun _ => rfl, fun _ _ => List.length_append, fun _ _ => rfl, rfl, fun _ _ _ => List.length_set, b2M, b2L, b5P, fun h l p v => c0U h l p v, fun h l n k v => b5Q h l n k v, fun h l n v => c0T h l n v, b8X, b8W, b1c,
  fun _ _ _ _ => List.set_set .., fun _ _ _ => List.all_append, Nat.add_assoc, fun _ _ _ => rfl, fun _ => rfl, fun n => by simp⟩
theorem a5B (hp : p ≠ q) : (h.set p v)[q]? = h[q]? := by simp [hp]
theorem a6R (f : Obj -> Bool) (hh : h.all f = true) (hv : f v = true) : (h.set p v).all f = true := by
 simp only [List.all_eq_true] at *
 intro x hx
 rcases List.mem_or_eq_of_mem_set hx with hx | rfl
 ·exact hh x hx
 ·exact hv
end
mutual
theorem C.a4K {n m : Nat} (hnm : n <= m) : ∀ c : C, C.under n c = true -> C.under m c = true
 | .ptr r _, h => by simp only [C.under, decide_eq_true_eq] at *; omega
 | .map r, h => by simp only [C.under, decide_eq_true_eq] at *; omega
 | .msl r _ _ _ _, h => by simp only [C.under, decide_eq_true_eq] at *; omega
 | .stamp r _, h => by simp only [C.under, decide_eq_true_eq] at *; omega
 | .fn f _ first cap, h => by
  simp only [C.under, Bool.and_eq_true] at h ⊢
  refine ⟨⟨?_, C.a5F hnm first h.1.2⟩, C.a5F hnm cap h.2⟩
  cases f with
  | fn => rfl
  | yield l => have := h.1.1; simp only [decide_eq_true_eq] at this ⊢; omega
 | .int .., h => by simp [C.under] at *
 | .bool .., h => by simp [C.under] at *
 | .str .., h => by simp [C.under] at *
 | .sl .., h => by simpa [C.under] using h
 | .own .., h => by simpa [C.under] using h
 | .imap .., h => by simpa [C.under] using h
 | .iset .., h => by simpa [C.under] using h
 | .eptr .., h => by simpa [C.under] using h
 | .nilf, h => by simp [C.under] at *
 | .nilp, h => by simp [C.under] at *
 | .nili, h => by simp [C.under] at *
 | .top, h => by simp [C.under] at *
theorem C.a5F {n m : Nat} (hnm : n <= m) : ∀ cs : List C, C.a0G n cs = true -> C.a0G m cs = true
 | [], _ => rfl
 | c :: cs, h => by
  simp only [C.a0G, Bool.and_eq_true] at h ⊢
  exact ⟨C.a4K hnm c h.1, C.a5F hnm cs h.2⟩
end
mutual
theorem V.a4K {n m : Nat} (hnm : n <= m) : ∀ v : V, v.under n = true -> v.under m = true
 | .sc c, h => by simp only [V.under] at h ⊢; exact C.a4K hnm c h
 | .agg cs, h => by simp only [V.under] at h ⊢; exact C.a5F hnm cs h
 | .tup vs, h => by simp only [V.under] at h ⊢; exact V.b0r hnm vs h
theorem V.b0r {n m : Nat} (hnm : n <= m) : ∀ vs : List V, V.a2I n vs = true -> V.a2I m vs = true
 | [], _ => by simp [V.a2I]
 | v :: vs, h => by
  simp only [V.a2I, Bool.and_eq_true] at h ⊢
  exact ⟨V.a4K hnm v h.1, V.b0r hnm vs h.2⟩
end
theorem Obj.a4K {n m : Nat} (hnm : n <= m) (o : Obj) (h : o.under n = true) : o.under m = true := by
 cases o with
 | var cs => exact C.a5F hnm cs h
 | loop st pend t ps a b =>
  simp only [Obj.under, List.all_eq_true] at *
  intro x hx; exact V.a4K hnm _ (h x hx)
 | _ => rfl
theorem a0Q (h : List Obj) (n k : Nat) (hh : h.all (Obj.under n) = true) : h.all (Obj.under (n + k)) = true := by
 simp only [List.all_eq_true] at *
 intro x hx; exact Obj.a4K (by omega) x (hh x hx)
/-! ### Lists that grow in a variable -/
def ownC (es : Nat) (L : List (List C)) : C := match L with | [] => .sl .nil es [] | _ :: _ => .own es L
theorem a2K (es : Nat) (L : List (List C)) (k : SK) (x : List C) (hr : L.length + 1 <= room) : appended es (.sc (ownC es L)) (.sc (.sl k es [x])) = some (ownC es (L ++ [x])) := by
 cases L with
 | nil => simp [ownC, appended, elems, room]
 | cons y L =>
  have : (y :: L).length + 1 <= room := hr
  simp only [List.length_cons] at this
  simp [ownC, appended, elems, this]
@[go_sem] theorem c3E (es : Nat) (L : List (List C)) : (V.sc (ownC es L)).cells = [ownC es L] := by cases L <;> rfl
@[go_sem] theorem c5Z (es : Nat) (L : List (List C)) : (V.sc (ownC es L)).a0r = .sc (a0r (ownC es L)) := nrfl rfl
@[go_sem] theorem a7C (n es : Nat) (L : List (List C)) : C.under n (ownC es L) = true := by cases L <;> simp [ownC, C.under]
@[go_sem] theorem c3d (n : Nat) (c : C) : C.under n (a0r c) = C.under n c := by cases c <;> simp [a0r, C.under]
@[go_sem] theorem c0p (es : Nat) (L : List (List C)) : C.pure (a0r (ownC es L)) = true := by cases L <;> simp [ownC, a0r, C.pure]
@[go_sem] theorem c0Q (b : Nat) (h : List Obj) (n es : Nat) (L : List (List C)) : frz b h (n + 1) (a0r (ownC es L)) = some (a0r (ownC es L)) := by cases L <;> rfl
@[go_sem] theorem b0T (c : C) : a0r (a0r c) = a0r c := by cases c <;> rfl
theorem b1j {α : Type} (l : List α) (p : Nat) (v : α) (h : l[p]? = some v) : l.set p v = l := by
 apply List.ext_getElem?
 intro i
 rw [List.getElem?_set]
 split
 ·rename_i e; subst e
  split
  ·exact h.symm
  ·rename_i e; rw [List.getElem?_eq_none (by omega)]
 ·rfl
theorem b9A {α : Type} (l : List α) (p q : Nat) (x v r : α) (hpq : p ≠ q) (h : l[p]? = some r) : ((l.set p x).set q v).set p r = l.set q v := by
 apply List.ext_getElem?
 intro i
 simp only [List.getElem?_set, List.length_set]
 by_cases h1 : p = i
 ·subst h1
  have : p < l.length := by
   rw [List.getElem?_eq_some_iff] at h; exact h.1
  have h2 : ¬ q = p := fun e => hpq e.symm
  have h3 : l[p] = r := by rw [List.getElem?_eq_getElem this] at h; exact Option.some.inj h
  simp [h2, this, h3]
 ·simp [h1]
theorem a2H {α β : Type} (g : α -> List β) (m : Nat) : ∀ (l : List α), (∀ x, x ∈ l -> (g x).length <= m) -> (l.flatMap g).length <= l.length * m
 | [], _ => by simp
 | x :: l, h => by
  have h1 := h x (by simp)
  have h2 := a2H g m l (fun y hy => h y (by simp [hy]))
  simp only [List.flatMap_cons, List.length_append, List.length_cons, Nat.add_mul, Nat.one_mul]
  omega
theorem a9r (c : C) (h : c.pure = true) : a0r c = c := by cases c <;> simp_all [a0r, C.pure]
/-! Numbers in places. -/
def iv (t : List Int) : List C := t.map fun n => .int .i64 n
section
variable (t : List Int)
@[go_sem] theorem d0B : (iv t).length = t.length := by simp [iv]
theorem b5U : C.a0v (iv t) = true := by
 induction t with
 | nil => rfl
 | cons n t ih => exact ih
@[go_sem] theorem c8u : C.a0v (iv t) = true := b5U t
@[go_sem] theorem c8v (n : Nat) : C.a0G n (iv t) = true := a0C n _ (b5U t)
@[go_sem] theorem d1c : (iv t).map a0r = iv t := by simp [iv, a0r, Function.comp_def]
@[go_sem] theorem d0C (i : Nat) (v : Int) : (iv t).set i (.int .i64 v) = iv (t.set i v) := by simp [iv, List.map_set]
end
/-! ### Maps -/
def looked (h : List Obj) (ok : Bool) (ty : KT) (z key m : V) : Option V :=
 match entries h ok ty z key m with
 | none => none
 | some (ka, va, l) => if fits ty key = false \/ ka ≠ ty.agg \/ z.isAgg ≠ va then none else match find ty.tags key.cells 0 l with
  | some (some (_, cs)) => (a7I va cs).map fun v => if ok then .tup [v, .sc (.bool true)] else v
  | some none => some (if ok then .tup [z, .sc (.bool false)] else z)
  | none => none
/-! Maps from two numbers to a number. -/
def enc2 (l : List (Int × Int × Int)) : List (List C × List C) := l.map fun e => ([.int .i64 e.1, .int .i64 e.2.1], [.int .i64 e.2.2])
theorem b4h (l : List (Int × Int × Int)) : (enc2 l).length = l.length := by simp [enc2]
def has2 : List (Int × Int × Int) -> Int -> Int -> Bool
 | [], _, _ => false
 | e :: l, a, b => (decide (a = e.1) && decide (b = e.2.1)) || has2 l a b
def got2 : List (Int × Int × Int) -> Int -> Int -> Int
 | [], _, _ => 0
 | e :: l, a, b => if a = e.1 /\ b = e.2.1 then e.2.2 else got2 l a b
def idx2 : List (Int × Int × Int) -> Int -> Int -> Nat
 | [], _, _ => 0
 | e :: l, a, b => if a = e.1 /\ b = e.2.1 then 0 else idx2 l a b + 1
def put2 : List (Int × Int × Int) -> Int -> Int -> Int -> List (Int × Int × Int)
 | [], a, b, v => [(a, b, v)]
 | e :: l, a, b, v => if a = e.1 /\ b = e.2.1 then (e.1, e.2.1, v) :: l else e :: put2 l a b v
theorem b4A (a b c d : Int) : a0c [1, 1] [.int .i64 a, .int .i64 b] [.int .i64 c, .int .i64 d] = some (decide (a = c) && decide (b = d)) := by
 simp [a0c, a0g]
 rfl
theorem b3P (a b : Int) : ∀ (l : List (Int × Int × Int)) (n : Nat), find [1, 1] [.int .i64 a, .int .i64 b] n (enc2 l) = some (if has2 l a b then some (n + idx2 l a b, [.int .i64 (got2 l a b)]) else none)
 | [], n => rfl
 | e :: l, n => by
  show (match a0c [1, 1] [.int .i64 a, .int .i64 b] [.int .i64 e.1, .int .i64 e.2.1] with | some true => some (some (n, [C.int .i64 e.2.2])) | some false => find [1, 1] [.int .i64 a, .int .i64 b] (n + 1) (enc2 l) | none => none) = _
  rw [b4A]
  by_cases h : a = e.1 /\ b = e.2.1
  ·simp [has2, got2, idx2, h]
  ·have h' : (decide (a = e.1) && decide (b = e.2.1)) = false := by
    rw [Bool.eq_false_iff]; simpa using h
   simp only [h', has2, got2, idx2, if_neg h, Bool.false_or]
   rw [b3P a b l (n + 1)]
   cases has2 l a b <;> simp <;> omega
theorem b5M : ∀ (l : List (Int × Int × Int)) (a b : Int), has2 l a b = false -> got2 l a b = 0
 | [], _, _, _ => rfl
 | e :: l, a, b, h => by
  simp only [has2, Bool.or_eq_false_iff] at h
  have : ¬ (a = e.1 /\ b = e.2.1) := by simpa using h.1
  simp only [got2, if_neg this]
  exact b5M l a b h.2
theorem b5R : ∀ (l : List (Int × Int × Int)) (a b : Int), has2 l a b = true -> idx2 l a b < l.length
 | [], _, _, h => by cases h
 | e :: l, a, b, h => by
  by_cases h2 : a = e.1 /\ b = e.2.1
  ·simp [idx2, h2]
  ·have h' : (decide (a = e.1) && decide (b = e.2.1)) = false := by rw [Bool.eq_false_iff]; simpa using h2
   simp only [has2, h', Bool.false_or] at h
   simp only [idx2, if_neg h2, List.length_cons]
   have := b5R l a b h
   omega
theorem b4Q : ∀ (l : List (Int × Int × Int)) (a b v : Int), has2 l a b = true -> setAt (idx2 l a b) [.int .i64 v] (enc2 l) = enc2 (put2 l a b v)
 | [], _, _, _, h => by cases h
 | e :: l, a, b, v, h => by
  by_cases h2 : a = e.1 /\ b = e.2.1
  ·simp [idx2, put2, h2, enc2, setAt]
  ·have h' : (decide (a = e.1) && decide (b = e.2.1)) = false := by rw [Bool.eq_false_iff]; simpa using h2
   simp only [has2, h', Bool.false_or] at h
   have := b4Q l a b v h
   simp only [idx2, put2, if_neg h2]
   simp only [setAt, enc2, List.map_cons, List.getElem?_cons_succ, List.set_cons_succ] at this ⊢
   split at this <;> simp_all
theorem b6j : ∀ (l : List (Int × Int × Int)) (a b v : Int), has2 l a b = false -> enc2 l ++ [([.int .i64 a, .int .i64 b], [.int .i64 v])] = enc2 (put2 l a b v)
 | [], _, _, _, _ => rfl
 | e :: l, a, b, v, h => by
  simp only [has2, Bool.or_eq_false_iff] at h
  have h2 : ¬ (a = e.1 /\ b = e.2.1) := by simpa using h.1
  have := b6j l a b v h.2
  simp only [put2, if_neg h2]
  simp only [enc2, List.map_cons, List.cons_append] at this ⊢
  rw [this]
@[go_sem] theorem c2h (h : List Obj) (l : List (Int × Int × Int)) (a b : Int) :
 looked h false ⟨true, [1, 1]⟩ (.sc (.int .i64 0)) (.agg [.int .i64 a, .int .i64 b]) (.sc (.imap true false (enc2 l))) = some (.sc (.int .i64 (got2 l a b))) := by
 have := b3P a b l 0
 simp only [looked, entries, fits, V.isAgg, V.cells, this, List.length_cons, List.length_nil]
 cases hh : has2 l a b with
 | true => simp [a7I]
 | false => simp [b5M l a b hh]
def b2R (o : Option Obj) (ok : Bool) (ty : KT) (z key : V) : Option V := looked [o.getD .dead] ok ty z key (.sc (.map 0))
@[go_sem] theorem c3O (h : List Obj) (p : Nat) (ok : Bool) (ty : KT) (z key : V) : looked h ok ty z key (.sc (.map p)) = b2R (h[p]?) ok ty z key := by
 simp only [looked, b2R, entries]
 cases h[p]? with
 | none => rfl
 | some o => cases o <;> rfl
@[go_sem] theorem c3N (ka va : Bool) (l : List (List C × List C)) (ok : Bool) (ty : KT) (z key : V) : b2R (some (.map ka va l none)) ok ty z key = looked [] ok ty z key (.sc (.imap ka va l)) := nrfl rfl
def b0z (o : Option Obj) (ty : KT) (z key : V) (p : Nat) (h : List Obj) (f : V -> List Obj -> Option β) (_ : Tag f := .mk) : Option β :=
 match o with
 | some (.map ka va l none) => if fits ty key = false \/ ka ≠ ty.agg \/ proper va z = false then none else match find ty.tags key.cells 0 l with
  | some (some (i, _)) => f (.tup [.sc .top, .sc (.stamp p i)]) h
  | some none => if C.a0v key.cells /\ C.a0v z.cells then f (.tup [.sc .top, .sc (.stamp p l.length)]) (h.set p (.map ka va l (some (key.cells, z.cells)))) else none
  | none => none
 | _ => none
def b6K (m : V) (f : Nat -> Option β) (_ : Tag f := .mk) : Option β := match m with | .sc (.map p) => f p | _ => none
@[go_sem] theorem b4L (p : Nat) (f : Nat -> Option β) : b6K (.sc (.map p)) f = f p := nrfl rfl
@[go_sem] theorem c6F (l : List (Int × Int × Int)) (a b : Int) (p : Nat) (h : List Obj) (f : V -> List Obj -> Option β) (hh : has2 l a b = true) :
 b0z (some (.map true false (enc2 l) none)) ⟨true, [1, 1]⟩ (.sc (.int .i64 0)) (.agg [.int .i64 a, .int .i64 b]) p h f = f (.tup [.sc .top, .sc (.stamp p (idx2 l a b))]) h := by
 have := b3P a b l 0
 simp [b0z, fits, V.isAgg, V.cells, proper, this, hh]
@[go_sem] theorem c8w (l : List (Int × Int × Int)) (a b : Int) (p : Nat) (h : List Obj) (f : V -> List Obj -> Option β) (hh : has2 l a b = false) :
 b0z (some (.map true false (enc2 l) none)) ⟨true, [1, 1]⟩ (.sc (.int .i64 0)) (.agg [.int .i64 a, .int .i64 b]) p h f =
  f (.tup [.sc .top, .sc (.stamp p l.length)]) (h.set p (.map true false (enc2 l) (some ([.int .i64 a, .int .i64 b], [.int .i64 0])))) := by
 have := b3P a b l 0
 simp [b0z, fits, V.isAgg, V.cells, proper, this, hh, C.a0v, C.pure, b4h]
def a7F (o : Option Obj) (p : Nat) (s v : V) (f : Obj -> Option β) (_ : Tag f := .mk) : Option β :=
 match o, s with
 | some (.map ka va l ph), .sc (.stamp q i) => if p ≠ q then none else if C.a0v v.cells /\ proper va v then
  match ph with
  | none => if i < l.length then f (.map ka va (setAt i v.cells l) none) else none
  | some (k, _) => if i = l.length then f (.map ka va (l ++ [(k, v.cells)]) none) else none
  else none
 | _, _ => none
@[go_sem] theorem c2I (l : List (Int × Int × Int)) (a b n : Int) (p : Nat) (f : Obj -> Option β) (hh : has2 l a b = true) :
 a7F (some (.map true false (enc2 l) none)) p (.sc (.stamp p (idx2 l a b))) (.sc (.int .i64 n)) f = f (.map true false (enc2 (put2 l a b n)) none) := by
 have h1 := b5R l a b hh
 have h2 := b4Q l a b n hh
 simp [a7F, C.a0v, C.pure, V.cells, proper, V.isAgg, h1, h2, b4h]
@[go_sem] theorem c3H (l : List (Int × Int × Int)) (a b n : Int) (z : List C) (p : Nat) (f : Obj -> Option β) (hh : has2 l a b = false) :
 a7F (some (.map true false (enc2 l) (some ([.int .i64 a, .int .i64 b], z)))) p (.sc (.stamp p l.length)) (.sc (.int .i64 n)) f = f (.map true false (enc2 (put2 l a b n)) none) := by
 have h2 := b6j l a b n hh
 have h3 : l.length = (enc2 l).length := by simp [enc2]
 simp only [a7F, C.a0v, C.pure, V.cells, proper, V.isAgg, ne_eq, not_true_eq_false, if_false, ← h2]
 simp [h3]
/-! ### Loops over functions -/
def a8i (o : Option Obj) (f : Ex -> Option β) (_ : Tag f := .mk) : Option β :=
 match o with
 | some (.loop st pend _ _ _ _) => if st = .busy then none else f (pend.getD .norm)
 | _ => none
@[go_sem] theorem c0l (t : List (Nat × V)) (ps : List Nat) (a b : AC) (f : Ex -> Option β) : a8i (some (.loop .ready none t ps a b)) f = f .norm := nrfl rfl
@[go_sem] theorem c1f (e : Ex) (t : List (Nat × V)) (ps : List Nat) (a b : AC) (f : Ex -> Option β) : a8i (some (.loop .done (some e) t ps a b)) f = f e := nrfl rfl
def onFk (k : Fk) (x : Option β) (_ : Tag x := .mk) : Option β := match k with | .fn _ => x | _ => none
@[go_sem] theorem c1e (id : Nat) (x : Option β) : onFk (.fn id) x = x := nrfl rfl
@[go_sem] theorem c8Y (f : Rand) (ps : List Nat) (a b : AC) (t : List (Nat × V)) (h : List Obj) (Q : Ex -> St -> Option β) :
 E Γ (.rfunc f ps a b) ⟨t, h⟩ Q = a0L (target (rd Γ t f) [.sc (.fn (.yield h.length) [] [] [])]) fun q => onFk q.1 (a0L (K Γ q.1 q.2 (h ++ [.loop .ready none (a3i t) ps a b])) fun r =>
  a8i (r.2[h.length]?) fun e => br ((r.2.take h.length).all (Obj.under h.length)) (Q e ⟨t, r.2.take h.length⟩) none) := by
 unfold E
 rw [X_eq]
 simp only [a0U]
 cases target (rd Γ t f) [.sc (.fn (.yield h.length) [] [] [])] with
 | none => rfl
 | some q =>
  obtain ⟨fk, vs⟩ := q
  cases fk with
  | yield l => rfl
  | fn id =>
   simp only [a1K, c1e]
   cases K Γ (.fn id) vs (h ++ [.loop .ready none (a3i t) ps a b]) with
   | none => rfl
   | some r =>
    obtain ⟨v, h'⟩ := r
    simp only [a1K, a8i]
    cases h'[h.length]? with
    | none => rfl
    | some o => cases o with
     | loop st pend t' ps' a' b' =>
      simp only
      by_cases hb : st = .busy
      ·simp only [if_pos hb]; rfl
      ·simp only [if_neg hb]
       cases hc : (h'.take h.length).all (Obj.under h.length) with
       | true => simp [andThen]
       | false => simp [andThen]
     | _ => rfl
def b0D (o : Option Obj) (f : List (Nat × V) -> List Nat -> AC -> AC -> Option β) (_ : Tag f := .mk) : Option β := match o with | some (.loop .ready none t ps a b) => f t ps a b | _ => none
@[go_sem] theorem c5o (t : List (Nat × V)) (ps : List Nat) (a b : AC) (f : List (Nat × V) -> List Nat -> AC -> AC -> Option β) : b0D (some (.loop .ready none t ps a b)) f = f t ps a b := nrfl rfl
def b2i (o : Option Obj) (f : List (Nat × V) -> List Nat -> AC -> AC -> Option β) (_ : Tag f := .mk) : Option β := match o with | some (.loop .busy _ t ps a b) => f t ps a b | _ => none
@[go_sem] theorem c6J (t : List (Nat × V)) (ps : List Nat) (a b : AC) (f : List (Nat × V) -> List Nat -> AC -> AC -> Option β) : b2i (some (.loop .busy none t ps a b)) f = f t ps a b := nrfl rfl
def stOf (e : Ex) : LS := if e = .norm then .ready else .done
def a8T (e : Ex) : Option Ex := if e = .norm then none else some e
@[go_sem] theorem c7h : stOf .norm = .ready := nrfl rfl
@[go_sem] theorem c2Q : a8T .norm = none := nrfl rfl
@[go_sem] theorem c8N : stOf .ret = .done := nrfl rfl
@[go_sem] theorem c5r : a8T .ret = some .ret := nrfl rfl
@[go_sem] theorem c7g (n : Nat) : stOf (.exit n) = .done := nrfl rfl
@[go_sem] theorem c2P (n : Nat) : a8T (.exit n) = some (.exit n) := nrfl rfl
@[go_sem] theorem c1o (p : Nat) (ps : List Nat) (v : V) (vs : List V) (t : List (Nat × V)) : a2D (p :: ps) (v :: vs) t = a2D ps vs ((p, v) :: t) := nrfl rfl
@[go_sem] theorem c1J (vs : List V) (t : List (Nat × V)) : a2D [] vs t = t := by cases vs <;> rfl
@[go_sem] theorem c2A (p : Nat × V) (t : List (Nat × V)) : a3i (p :: t) = (p.1, p.2.a0r) :: a3i t := nrfl rfl
@[go_sem] theorem c3i : a3i [] = [] := nrfl rfl
theorem c0y (l : Nat) (vs : List V) (h : List Obj) : K Γ (.yield l) vs h = b0D (h[l]?) fun t ps a b => br (decide (vs.length = ps.length)) (E Γ a ⟨a2D ps vs t, h⟩ fun e s => match e with
 | .norm => b0D (s.h[l]?) fun t1 ps1 a1 b1 => E Γ b ⟨s.t, s.h.set l (.loop .busy none t1 ps1 a1 b1)⟩ fun e s => b2i (s.h[l]?) fun t' ps' a' b' =>
  br (((s.h.set l (.loop (stOf e) (a8T e) t' ps' a' b')).take h.length).all (Obj.under h.length)) (some (.sc (.bool (decide (e = .norm))), (s.h.set l (.loop (stOf e) (a8T e) t' ps' a' b')).take h.length)) none
 | _ => none) none := by
 rw [K_eq]
 simp only [a3D, b0D]
 cases h[l]? with
 | none => rfl
 | some o => cases o with
  | loop st pend t ps a b =>
   cases st with
   | ready => cases pend with
    | some _ => rfl
    | none =>
     simp only
     by_cases hl : vs.length = ps.length
     ·simp only [hl, ne_eq, not_true_eq_false, if_false, decide_true, a4R]
      unfold E andThen
      cases X Γ a { t := a2D ps vs t, h := h } with
      | none => rfl
      | some r =>
       obtain ⟨e, s⟩ := r
       cases e with
       | norm =>
        simp only
        cases s.h[l]? with
        | none => rfl
        | some o => cases o with
         | loop st1 pend1 t1 ps1 a1 b1 =>
          cases st1 with
          | ready => cases pend1 with
           | some _ => rfl
           | none =>
            simp only
            cases X Γ b { t := s.t, h := s.h.set l (.loop .busy none t1 ps1 a1 b1) } with
            | none => rfl
            | some r =>
             obtain ⟨e, s2⟩ := r
             simp only [b2i]
             cases s2.h[l]? with
             | none => rfl
             | some o => cases o with
              | loop st2 pend2 t2 ps2 a2 b2 =>
               cases st2 with
               | busy =>
                simp only [stOf, a8T]
                cases hc : ((s2.h.set l (.loop (if e = .norm then .ready else .done) (if e = .norm then none else some e) t2 ps2 a2 b2)).take h.length).all (Obj.under h.length) with
                | true => simp
                | false => simp
               | _ => rfl
              | _ => rfl
          | _ => rfl
         | _ => rfl
       | _ => rfl
     ·simp only [hl, ne_eq, not_false_eq_true, if_true, decide_false, a4r]
   | _ => rfl
  | _ => rfl
end
end Go.Pm

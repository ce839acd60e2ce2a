/- The statement PracticeWell, part 5. -/
import Derived.Test.YtdockaglpfejhaaGreatDoorW1
import Derived.Attr
set_option linter.all false
set_option maxRecDepth 100000
namespace Go.Pm.Ac
open Go.Pm
def a1b:AC :=
 (.seq (.seq (.region 0 [
 M 0 12 5,
 M 1 13 12,
 Y 2 14 13 (oM 6),
 Y 3 15 13 (oM 0),
 Y 4 16 13 (oN 1 15),
 Y 5 17 13 (oB .lss 14 16),
 I 6 18 (oA 13 17)] false [0,1,5,6,18])
 (.cond (.t 18)
 (.skip)
 (.exit 0)))
 (.seq (.block 1 (.region 0 [
 M 0 21 0,
 M 1 22 6,
 I 2 23 (oI 1 21 22),
 I 3 24 (oL 23),
 M 4 25 1,
 M 5 26 6,
 I 6 27 (oI 1 25 26),
 I 7 28 (oL 27),
 I 8 29 (oB .eql 24 28),
 M 9 5 29] true [0,1,5,6]))
 (.region 0 [
 M 0 19 6,
 I 1 20 (oK .add 19 1),
 M 2 6 20] false [0,1,5,6])))
def a6n:AC:=.loop [0,1,5,6] a1b
def a3l:Fn:=⟨2,31,[(4,none)],
 (.seq (.region 0 [
 I 0 4 (.mv (kB false))] false [0,1])
 (.seq (.region 0 [
 M 0 7 0,
 I 1 8 (oN 1 7),
 M 2 9 1,
 I 3 10 (oN 1 9),
 I 4 11 (oB .eql 8 10),
 M 5 5 11] false [0,1,5])
 (.seq (.seq (.region 0 [
 I 0 6 (.mv (kI 0))] false [0,1,5,6])
 (.block 0 (a6n)))
 (.seq (.region 0 [
 M 0 30 5,
 M 1 4 30] false [4])
 (.ret))))),false⟩
def a2w:Fn:=⟨3,15,[(6,none)],
 (.seq (.region 0 [
 I 0 6 (.mv (kB false))] false [0,1,2])
 (.seq (.region 0 [
 M 0 7 1,
 M 1 8 0,
 I 2 9 (oB .leq 7 8),
 M 3 10 9,
 Y 4 11 10 (oM 0),
 Y 5 12 10 (oM 2),
 Y 6 13 10 (oB .leq 11 12),
 I 7 14 (oA 10 13),
 M 8 6 14] false [6])
 (.ret))),false⟩
def a1C:AC :=
 (.seq (.region 0 [
 I 0 35 (oB .lss 34 33)] false [7,9,33,34,35])
 (.seq (.cond (.t 35)
 (.skip)
 (.exit 0))
 (.seq (.block 1 (.seq (.region 0 [
 M 0 36 34,
 M 1 10 36] false [7,9,10,33,34])
 (.seq (.region 0 [
 I 0 37 (oS 12 7),
 M 1 38 10,
 M 2 39 9,
 I 3 40 (o3 122 37 38 39),
 I 4 41 (oU .not 40)] false [7,9,33,34,41])
 (.cond (.t 41)
 (.seq (.region 0 [
 I 0 4 (.mv (kB false)),
 I 1 5 (.mv (kI 0))] false [4,5])
 (.ret))
 (.skip)))))
 (.region 0 [
 I 0 42 (oK .add 34 1),
 M 1 34 42] false [7,9,33,34]))))
def a9b:AC:=.loop [7,9,33,34] a1C
def a1F:Fn:=⟨2,46,[(4,none),(5,none)],
 (.seq (.region 1 [
 I 0 2 (.box 0 (.t 0)),
 I 1 4 (.mv (kB false)),
 I 2 5 (.mv (kI 0))] false [1,2])
 (.seq (.seq (.region 0 [
 I 0 11 (oS 10 2),
 I 1 12 (o1 117 11),
 M 2 6 12] false [1,2,6])
 (.seq (.region 0 [
 M 0 13 6,
 I 1 14 (oK .neq 13 0)] false [1,2,6,14])
 (.cond (.t 14)
 (.seq (.region 0 [
 M 0 15 6,
 I 1 4 (.mv (kB false)),
 M 2 5 15] false [4,5])
 (.ret))
 (.skip))))
 (.seq (.region 1 [
 I 0 17 (oS 10 2),
 I 1 18 (oS 10 2),
 M 2 19 1,
 I 3 20 (o2 118 18 19),
 I 4 21 (o2 111 17 20),
 M 5 16 21,
 I 6 22 (oE 16 0),
 I 7 23 (oE 16 1),
 ⟨8,some 7,.alloc 0 [.sl .nil 2 [],.int .i64 0,.int .i64 0,.int .i64 0,.int .i64 0,.int .i64 0,.int .i64 0,.sl .nil 3 [],.sl .nil 2 [],.sl .nil 4 [],.imap true false [],.sl .nil 4 []],none,[0,1]⟩,
 J 9 (.store 12 (.t 7) (.t 22)),
 M 10 8 23] true [1,2,7,8])
 (.seq (.seq (.region 0 [
 M 0 24 8,
 I 1 25 (oK .neq 24 0)] false [1,2,7,8,25])
 (.cond (.t 25)
 (.seq (.region 0 [
 M 0 26 8,
 I 1 4 (.mv (kB false)),
 M 2 5 26] false [4,5])
 (.ret))
 (.skip)))
 (.seq (.region 0 [
 I 0 27 (oF 10 7),
 I 1 28 (oL 27),
 M 2 29 1,
 I 3 30 (o2 121 28 29),
 M 4 9 30] false [2,7,9])
 (.seq (.seq (.region 0 [
 I 0 31 (oF 0 2),
 I 1 32 (oL 31),
 I 2 33 (oN 1 32),
 I 3 34 (.mv (kI 0))] false [7,9,33,34])
 (.block 0 (a9b)))
 (.seq (.region 0 [
 I 0 43 (oS 12 7),
 M 1 44 9,
 I 2 45 (o2 123 43 44),
 M 3 4 45,
 I 4 5 (.mv (kI 0))] false [4,5])
 (.ret)))))))),false⟩
def d2G:Fn:=⟨1,15,[(2,none),(3,none)],
 (.seq (.region 1 [
 I 0 1 (.box 0 (.t 0)),
 I 1 2 (.mv (kB false)),
 I 2 3 (.mv (kI 0))] false [1])
 (.seq (.seq (.region 0 [
 I 0 5 (oS 10 1),
 I 1 6 (o1 117 5),
 M 2 4 6] false [1,4])
 (.seq (.region 0 [
 M 0 7 4,
 I 1 8 (oK .neq 7 0)] false [1,4,8])
 (.cond (.t 8)
 (.seq (.region 0 [
 M 0 9 4,
 I 1 2 (.mv (kB false)),
 M 2 3 9] false [2,3])
 (.ret))
 (.skip))))
 (.seq (.region 0 [
 I 0 10 (oS 10 1),
 I 1 11 (.call true (.f 144) [.t 10,.k (.sc (.sl .nil 1 []))]),
 I 2 12 (.field 11 none (.t 11)),
 I 3 13 (oN 1 12),
 I 4 14 (oK .gtr 13 0),
 M 5 2 14,
 I 6 3 (.mv (kI 0))] false [2,3])
 (.ret)))),false⟩
def a6x:AC :=
 (.seq (.region 0 [
 I 0 40 (oB .lss 39 38)] false [1,3,37,38,39,40])
 (.seq (.cond (.t 40)
 (.skip)
 (.exit 0))
 (.seq (.block 1 (.seq (.region 1 [
 I 0 41 (oI 2 37 39),
 I 1 42 (oS 2 41),
 I 2 5 (.alloc 0 [.int .i64 0,.int .i64 0]),
 J 3 (.store 2 (.t 5) (.t 42))] false [1,3,5,37,38,39])
 (.region 0 [
 M 0 43 3,
 M 1 44 43,
 Y 2 45 44 (oS 2 5),
 Y 3 46 44 (.call true (.f 151) [.t 45,.k (.sc (.int .i64 30)),.k (.sc (.int .i64 2))]),
 I 4 47 (oA 44 46),
 M 5 3 47] false [1,3,37,38,39])))
 (.region 0 [
 I 0 48 (oK .add 39 1),
 M 1 39 48] false [1,3,37,38,39]))))
def a8n:AC:=.loop [1,3,37,38,39] a6x
def a3T:AC :=
 (.seq (.region 0 [
 I 0 52 (oK .lss 51 3)] false [1,3,50,51,52])
 (.seq (.cond (.t 52)
 (.skip)
 (.exit 2))
 (.seq (.block 3 (.seq (.region 1 [
 I 0 53 (.index 3 2 (some 2) (.t 50) (.t 51)),
 I 1 7 (.alloc 0 [.int .i64 0,.int .i64 0]),
 J 2 (.store 2 (.t 7) (.t 53))] false [1,3,7,50,51])
 (.region 0 [
 M 0 54 3,
 M 1 55 54,
 Y 2 56 55 (oS 2 7),
 Y 3 57 55 (.call true (.f 151) [.t 56,.k (.sc (.int .i64 6)),.k (.sc (.int .i64 1))]),
 I 4 58 (oA 55 57),
 M 5 3 58] false [1,3,50,51])))
 (.region 0 [
 I 0 59 (oK .add 51 1),
 M 1 51 59] false [1,3,50,51]))))
def a3f:AC:=.loop [1,3,50,51] a3T
def a6y:AC :=
 (.seq (.region 0 [
 I 0 64 (oB .lss 63 62)] false [1,3,61,62,63,64])
 (.seq (.cond (.t 64)
 (.skip)
 (.exit 4))
 (.seq (.block 5 (.seq (.region 1 [
 I 0 65 (oI 3 61 63),
 I 1 66 (oS 3 65),
 I 2 9 (.alloc 0 [.int .i64 0,.int .i64 0,.int .i64 0]),
 J 3 (.store 3 (.t 9) (.t 66))] false [1,3,9,61,62,63])
 (.region 0 [
 M 0 67 3,
 M 1 68 67,
 Y 2 69 68 (oF 0 9),
 Y 3 70 68 (oL 69),
 Y 4 71 68 (.call true (.f 150) [.t 70,.k (.sc (.int .i64 0)),.k (.sc (.int .i64 2))]),
 I 5 72 (oA 68 71),
 M 6 73 72,
 Y 7 74 73 (oF 1 9),
 Y 8 75 73 (oL 74),
 Y 9 76 73 (.call true (.f 150) [.t 75,.k (.sc (.int .i64 0)),.k (.sc (.int .i64 2))]),
 I 10 77 (oA 73 76),
 M 11 78 77,
 Y 12 79 78 (oF 2 9),
 Y 13 80 78 (oL 79),
 Y 14 81 78 (.call true (.f 150) [.t 80,.k (.sc (.int .i64 0)),.k (.sc (.int .i64 3))]),
 I 15 82 (oA 78 81),
 M 16 3 82] false [1,3,61,62,63])))
 (.region 0 [
 I 0 83 (oK .add 63 1),
 M 1 63 83] false [1,3,61,62,63]))))
def a8o:AC:=.loop [1,3,61,62,63] a6y
def a6z:AC :=
 (.seq (.region 0 [
 I 0 88 (oB .lss 87 86)] false [1,3,85,86,87,88])
 (.seq (.cond (.t 88)
 (.skip)
 (.exit 6))
 (.seq (.block 7 (.seq (.region 1 [
 I 0 89 (oI 2 85 87),
 I 1 90 (oS 2 89),
 I 2 11 (.alloc 0 [.int .i64 0,.int .i64 0]),
 J 3 (.store 2 (.t 11) (.t 90))] false [1,3,11,85,86,87])
 (.region 0 [
 M 0 91 3,
 M 1 92 91,
 Y 2 93 92 (oS 10 1),
 Y 3 94 92 (oF 0 11),
 Y 4 95 92 (oL 94),
 Y 5 96 92 (o2 152 93 95),
 I 6 97 (oA 92 96),
 M 7 98 97,
 Y 8 99 98 (oS 10 1),
 Y 9 100 98 (oF 1 11),
 Y 10 101 98 (oL 100),
 Y 11 102 98 (o2 153 99 101),
 I 12 103 (oA 98 102),
 M 13 3 103] false [1,3,85,86,87])))
 (.region 0 [
 I 0 104 (oK .add 87 1),
 M 1 87 104] false [1,3,85,86,87]))))
def a8p:AC:=.loop [1,3,85,86,87] a6z
def a6A:AC :=
 (.seq (.region 0 [
 I 0 109 (oB .lss 108 107)] false [1,3,106,107,108,109])
 (.seq (.cond (.t 109)
 (.skip)
 (.exit 8))
 (.seq (.block 9 (.seq (.region 1 [
 I 0 110 (oI 4 106 108),
 I 1 111 (oS 4 110),
 I 2 13 (.alloc 0 [.int .i64 0,.int .i64 0,.int .i64 0,.int .i64 0]),
 J 3 (.store 4 (.t 13) (.t 111))] false [1,3,13,106,107,108])
 (.region 0 [
 M 0 112 3,
 M 1 113 112,
 Y 2 114 113 (oS 10 1),
 Y 3 115 113 (oS 4 13),
 Y 4 116 113 (o2 154 114 115),
 I 5 117 (oA 113 116),
 M 6 3 117] false [1,3,106,107,108])))
 (.region 0 [
 I 0 118 (oK .add 108 1),
 M 1 108 118] false [1,3,106,107,108]))))
def a8q:AC:=.loop [1,3,106,107,108] a6A
def a6w:Fn:=⟨1,121,[(2,none)],
 (.seq (.region 1 [
 I 0 1 (.box 0 (.t 0)),
 I 1 2 (.mv (kI 0))] false [1])
 (.seq (.region 0 [
 I 0 14 (oF 0 1),
 I 1 15 (oL 14),
 I 2 16 (oN 1 15),
 I 3 17 (.call true (.f 150) [.t 16,.k (.sc (.int .i64 1)),.k (.sc (.int .i64 3))]),
 M 4 18 17,
 Y 5 19 18 (oF 7 1),
 Y 6 20 18 (oL 19),
 Y 7 21 18 (oN 1 20),
 Y 8 22 18 (.call true (.f 150) [.t 21,.k (.sc (.int .i64 1)),.k (.sc (.int .i64 5))]),
 I 9 23 (oA 18 22),
 M 10 24 23,
 Y 11 25 24 (oF 8 1),
 Y 12 26 24 (oL 25),
 Y 13 27 24 (oN 1 26),
 Y 14 28 24 (oK .leq 27 6),
 I 15 29 (oA 24 28),
 M 16 30 29,
 Y 17 31 30 (oF 9 1),
 Y 18 32 30 (oL 31),
 Y 19 33 30 (oN 1 32),
 Y 20 34 30 (oK .leq 33 4),
 I 21 35 (oA 30 34),
 M 22 3 35] false [1,3])
 (.seq (.seq (.region 0 [
 I 0 36 (oF 0 1),
 I 1 37 (oL 36),
 I 2 38 (oN 1 37),
 I 3 39 (.mv (kI 0))] false [1,3,37,38,39])
 (.block 0 (a8n)))
 (.seq (.seq (.region 0 [
 I 0 49 (oF 1 1),
 I 1 50 (oS 6 49),
 I 2 51 (.mv (kI 0))] false [1,3,50,51])
 (.block 2 (a3f)))
 (.seq (.seq (.region 0 [
 I 0 60 (oF 7 1),
 I 1 61 (oL 60),
 I 2 62 (oN 1 61),
 I 3 63 (.mv (kI 0))] false [1,3,61,62,63])
 (.block 4 (a8o)))
 (.seq (.seq (.region 0 [
 I 0 84 (oF 8 1),
 I 1 85 (oL 84),
 I 2 86 (oN 1 85),
 I 3 87 (.mv (kI 0))] false [1,3,85,86,87])
 (.block 6 (a8p)))
 (.seq (.seq (.region 0 [
 I 0 105 (oF 9 1),
 I 1 106 (oL 105),
 I 2 107 (oN 1 106),
 I 3 108 (.mv (kI 0))] false [1,3,106,107,108])
 (.block 8 (a8q)))
 (.seq (.seq (.region 0 [
 M 0 119 3,
 I 1 120 (oU .not 119)] false [120])
 (.cond (.t 120)
 (.seq (.region 0 [
 I 0 2 (.mv (kI 40))] false [2])
 (.ret))
 (.skip)))
 (.seq (.region 0 [
 I 0 2 (.mv (kI 0))] false [2])
 (.ret)))))))))),false⟩
def a4A:Fn:=⟨1,6,[(2,some (some 2))],
 (.seq (.region 1 [
 I 0 2 (.alloc 0 [.int .i64 0,.int .i64 0])] false [0,2])
 (.seq (.region 0 [
 M 0 3 0,
 M 1 4 0,
 I 2 5 (.build [.int .i64 0,.int .i64 0] [(0,1,.t 3),(1,1,.t 4)]),
 J 3 (.store 2 (.t 2) (.t 5))] false [2])
 (.ret))),false⟩
def a3N:Fn:=⟨2,8,[(4,some (some 2))],
 (.seq (.region 1 [
 I 0 4 (.alloc 0 [.int .i64 0,.int .i64 0])] false [0,1,4])
 (.seq (.region 0 [
 M 0 5 0,
 M 1 6 1,
 I 2 7 (.build [.int .i64 0,.int .i64 0] [(0,1,.t 5),(1,1,.t 6)]),
 J 3 (.store 2 (.t 4) (.t 7))] false [4])
 (.ret))),false⟩
def a3C:Fn:=⟨2,25,[(4,some (some 12)),(5,none)],
 (.seq (.region 2 [
 I 0 2 (.box 0 (.t 0)),
 I 1 4 (.alloc 1 [.sl .nil 2 [],.int .i64 0,.int .i64 0,.int .i64 0,.int .i64 0,.int .i64 0,.int .i64 0,.sl .nil 3 [],.sl .nil 2 [],.sl .nil 4 [],.imap true false [],.sl .nil 4 []]),
 I 2 5 (.mv (kI 0))] false [1,2,4])
 (.seq (.seq (.region 0 [
 I 0 8 (oS 10 2),
 I 1 9 (o1 117 8),
 M 2 6 9] false [1,2,4,6])
 (.seq (.region 0 [
 M 0 10 6,
 I 1 11 (oK .neq 10 0)] false [1,2,4,6,11])
 (.cond (.t 11)
 (.seq (.region 0 [
 I 0 12 (.build [.sl .nil 2 [],.int .i64 0,.int .i64 0,.int .i64 0,.int .i64 0,.int .i64 0,.int .i64 0,.sl .nil 3 [],.sl .nil 2 [],.sl .nil 4 [],.imap true false [],.sl .nil 4 []] []),
 M 1 13 6,
 J 2 (.store 12 (.t 4) (.t 12)),
 M 3 5 13] false [4,5])
 (.ret))
 (.skip))))
 (.seq (.seq (.region 0 [
 M 0 14 1,
 I 1 15 (oU .not 14)] false [2,4,15])
 (.cond (.t 15)
 (.seq (.region 0 [
 I 0 16 (.build [.sl .nil 2 [],.int .i64 0,.int .i64 0,.int .i64 0,.int .i64 0,.int .i64 0,.int .i64 0,.sl .nil 3 [],.sl .nil 2 [],.sl .nil 4 [],.imap true false [],.sl .nil 4 []] []),
 J 1 (.store 12 (.t 4) (.t 16)),
 I 2 5 (.mv (kI 41))] false [4,5])
 (.ret))
 (.skip)))
 (.seq (.region 1 [
 I 0 17 (oS 10 2),
 I 1 18 (.call true (.f 144) [.t 17,.k (.sc (.sl .nil 1 []))]),
 I 2 7 (.alloc 0 [.sl .nil 2 [],.int .i64 0,.int .i64 0,.int .i64 0,.int .i64 0,.int .i64 0,.int .i64 0,.sl .nil 3 [],.sl .nil 2 [],.sl .nil 4 [],.imap true false [],.sl .nil 4 []]),
 J 3 (.store 12 (.t 7) (.t 18))] false [4,7])
 (.seq (.seq (.region 0 [
 I 0 19 (oF 11 7),
 I 1 20 (oL 19),
 I 2 21 (oN 1 20),
 I 3 22 (oK .eql 21 0)] false [4,7,22])
 (.cond (.t 22)
 (.seq (.region 0 [
 I 0 23 (oS 12 7),
 J 1 (.store 12 (.t 4) (.t 23)),
 I 2 5 (.mv (kI 42))] false [4,5])
 (.ret))
 (.skip)))
 (.seq (.region 0 [
 I 0 24 (oS 12 7),
 J 1 (.store 12 (.t 4) (.t 24)),
 I 2 5 (.mv (kI 0))] false [4,5])
 (.ret))))))),false⟩
def a5N:Fn:=⟨2,25,[(4,none)],
 (.seq (.region 2 [
 I 0 2 (.box 0 (.t 0)),
 I 1 3 (.box 1 (.t 1)),
 I 2 4 (.mv (kB false))] false [2,3])
 (.seq (.region 0 [
 I 0 5 (oS 10 2),
 I 1 6 (oF 0 3),
 I 2 7 (oL 6),
 I 3 8 (o2 153 5 7),
 M 4 9 8,
 Y 5 10 9 (oS 10 2),
 Y 6 11 9 (oF 1 3),
 Y 7 12 9 (oL 11),
 Y 8 13 9 (o2 152 10 12),
 I 9 14 (oA 9 13),
 M 10 15 14,
 Y 11 16 15 (oF 2 3),
 Y 12 17 15 (oL 16),
 Y 13 18 15 (.call true (.f 150) [.t 17,.k (.sc (.int .i64 (-150))),.k (.sc (.int .i64 30))]),
 I 14 19 (oA 15 18),
 M 15 20 19,
 Y 16 21 20 (oF 3 3),
 Y 17 22 20 (oL 21),
 Y 18 23 20 (.call true (.f 150) [.t 22,.k (.sc (.int .i64 0)),.k (.sc (.int .i64 3))]),
 I 19 24 (oA 20 23),
 M 20 4 24] false [4])
 (.ret))),false⟩
def a1Q:AC :=
 (.seq (.seq (.region 0 [
 M 0 36 12,
 I 1 37 (oF 1 10),
 I 2 38 (oL 37),
 I 3 39 (oB .leq 36 38)] false [3,5,6,7,8,9,10,11,12,27,28,29,39])
 (.cond (.t 39)
 (.skip)
 (.exit 4)))
 (.seq (.block 5 (.seq (.region 0 [
 I 0 42 (oL 6),
 I 1 43 (oS 3 7),
 M 2 44 9,
 M 3 45 12,
 I 4 46 (oL 3),
 I 5 47 (.call true (.t 42) [.t 43,.t 44,.t 45,.t 46])] false [3,5,6,7,8,9,10,11,12,27,28,29,47])
 (.cond (.t 47)
 (.region 0 [
 I 0 48 (.mv (.tk 11)),
 M 1 49 12,
 I 2 50 (.bslice 1 1 [.int .i64 0] [(0,.t 49)]),
 I 3 51 (.append 1 (.tk 48) (.t 50)),
 I 4 11 (.mv (.tk 51))] false [3,5,6,7,8,9,10,11,12,27,28,29])
 (.skip))))
 (.region 0 [
 M 0 40 12,
 I 1 41 (oK .add 40 1),
 M 2 12 41] false [3,5,6,7,8,9,10,11,12,27,28,29])))
def a8c:AC:=.loop [3,5,6,7,8,9,10,11,12,27,28,29] a1Q
def a1P:AC :=
 (.seq (.region 0 [
 I 0 30 (oB .lss 29 28)] false [3,5,6,7,8,27,28,29,30])
 (.seq (.cond (.t 30)
 (.skip)
 (.exit 2))
 (.seq (.block 3 (.seq (.region 1 [
 M 0 31 29,
 I 1 32 (oI 2 27 29),
 I 2 33 (oS 2 32),
 I 3 10 (.alloc 0 [.int .i64 0,.int .i64 0]),
 M 4 9 31,
 J 5 (.store 2 (.t 10) (.t 33))] false [3,5,6,7,8,9,10,27,28,29])
 (.seq (.region 0 [
 I 0 11 (.mv (.k (.sc (.sl .nil 1 []))))] false [3,5,6,7,8,9,10,11,27,28,29])
 (.seq (.seq (.region 0 [
 I 0 34 (oF 0 10),
 I 1 35 (oL 34),
 M 2 12 35] false [3,5,6,7,8,9,10,11,12,27,28,29])
 (.block 4 (a8c)))
 (.seq (.seq (.region 0 [
 M 0 52 11,
 I 1 53 (oN 1 52),
 I 2 54 (oK .eql 53 0)] false [3,5,6,7,8,11,27,28,29,54])
 (.cond (.t 54)
 (.exit 1)
 (.skip)))
 (.region 0 [
 I 0 55 (oF 3 8),
 I 1 56 (.loadT (.t 55)),
 M 2 57 11,
 I 3 58 (.bslice 1 1 [.sl .nil 1 []] [(0,.t 57)]),
 I 4 59 (.append 1 (.tk 56) (.t 58)),
 I 5 60 (oF 3 8),
 J 6 (.store 1 (.t 60) (.tk 59))] false [3,5,6,7,8,27,28,29]))))))
 (.region 0 [
 I 0 61 (oK .add 29 1),
 M 1 29 61] false [3,5,6,7,8,27,28,29]))))
def a5V:AC:=.loop [3,5,6,7,8,27,28,29] a1P
def a2x:AC :=
 (.region 1 [
 I 0 7 (.alloc 0 [.int .i64 0,.int .i64 0,.int .i64 0]),
 J 1 (.store 3 (.t 7) (.t 23))] false [2,3,5,6,7])
def a2y:AC :=
 (.block 1 (.seq (.region 1 [
 I 0 24 (oS 3 7),
 I 1 25 (.build [.int .i64 0,.int .i64 0,.int .i64 0,.sl .nil 1 []] [(0,3,.t 24)]),
 I 2 8 (.alloc 0 [.int .i64 0,.int .i64 0,.int .i64 0,.sl .nil 1 []]),
 J 3 (.store 4 (.t 8) (.t 25))] false [2,3,5,6,7,8])
 (.seq (.seq (.region 0 [
 I 0 26 (oF 0 2),
 I 1 27 (oL 26),
 I 2 28 (oN 1 27),
 I 3 29 (.mv (kI 0))] false [3,5,6,7,8,27,28,29])
 (.block 2 (a5V)))
 (.region 0 [
 I 0 62 (oF 11 5),
 I 1 63 (.loadT (.t 62)),
 I 2 64 (oS 4 8),
 I 3 65 (.bslice 4 1 [.int .i64 0,.int .i64 0,.int .i64 0,.sl .nil 1 []] [(0,.t 64)]),
 I 4 66 (.append 4 (.tk 63) (.t 65)),
 I 5 67 (oF 11 5),
 J 6 (.store 1 (.t 67) (.tk 66))] false []))))
def a5P:Fn:=⟨2,69,[(4,some (some 12))],
 (.seq (.region 3 [
 I 0 2 (.box 0 (.t 0)),
 I 1 3 (.box 1 (.t 1)),
 I 2 4 (.alloc 2 [.sl .nil 2 [],.int .i64 0,.int .i64 0,.int .i64 0,.int .i64 0,.int .i64 0,.int .i64 0,.sl .nil 3 [],.sl .nil 2 [],.sl .nil 4 [],.imap true false [],.sl .nil 4 []])] false [2,3,4])
 (.seq (.region 2 [
 I 0 13 (oS 10 2),
 ⟨1,some 14,.kset 0 2,none,[0]⟩,
 I 2 15 (oF 8 2),
 ⟨3,some 16,oL 15,none,[1]⟩,
 I 4 17 (o2 121 14 16),
 I 5 18 (.build [.sl .nil 2 [],.int .i64 0,.int .i64 0,.int .i64 0,.int .i64 0,.int .i64 0,.int .i64 0,.sl .nil 3 [],.sl .nil 2 [],.sl .nil 4 [],.imap true false [],.sl .nil 4 []] [(0,10,.t 13),(10,1,.t 17)]),
 ⟨6,some 5,.alloc 1 [.sl .nil 2 [],.int .i64 0,.int .i64 0,.int .i64 0,.int .i64 0,.int .i64 0,.int .i64 0,.sl .nil 3 [],.sl .nil 2 [],.sl .nil 4 [],.imap true false [],.sl .nil 4 []],none,[0,3]⟩,
 J 7 (.store 12 (.t 5) (.t 18))] true [2,3,4,5])
 (.seq (.region 1 [
 I 0 19 (oS 12 5),
 I 1 20 (.mkf 171 [some 12] [.t 19] []),
 I 2 6 (.alloc 0 [.nilf]),
 J 3 (.store 1 (.t 6) (.t 20))] false [2,3,4,5,6])
 (.seq (.seq (.region 0 [
 I 0 21 (oS 12 5),
 I 1 22 (o1 172 21)] false [2,3,4,5,6,22])
 (.block 0 (.rfunc (.t 22) [23] a2x a2y)))
 (.seq (.region 0 [
 I 0 68 (oS 12 5),
 J 1 (.store 12 (.t 4) (.t 68))] false [4])
 (.ret)))))),false⟩
def a2m:AC :=
 (.seq (.region 0 [
 I 0 10 (oB .lss 9 8)] false [3,7,8,9,10])
 (.seq (.cond (.t 10)
 (.skip)
 (.exit 0))
 (.seq (.block 1 (.seq (.region 1 [
 I 0 11 (oI 4 7 9),
 I 1 12 (oS 4 11),
 I 2 5 (.alloc 0 [.int .i64 0,.int .i64 0,.int .i64 0,.int .i64 0]),
 J 3 (.store 4 (.t 5) (.t 12))] false [3,5,7,8,9])
 (.region 0 [
 M 0 13 3,
 I 1 14 (oF 1 5),
 I 2 15 (oL 14),
 I 3 16 (oK .add 15 1),
 I 4 17 (.max (.t 13) [.t 16]),
 M 5 3 17] false [3,7,8,9])))
 (.region 0 [
 I 0 18 (oK .add 9 1),
 M 1 9 18] false [3,7,8,9]))))
def a9d:AC:=.loop [3,7,8,9] a2m
def a7d:Fn:=⟨1,20,[(2,none)],
 (.seq (.region 1 [
 I 0 1 (.box 0 (.t 0)),
 I 1 2 (.mv (kI 0))] false [1])
 (.seq (.region 0 [
 I 0 3 (.mv (kI 0))] false [1,3])
 (.seq (.seq (.region 0 [
 I 0 6 (oF 9 1),
 I 1 7 (oL 6),
 I 2 8 (oN 1 7),
 I 3 9 (.mv (kI 0))] false [3,7,8,9])
 (.block 0 (a9d)))
 (.seq (.region 0 [
 M 0 19 3,
 M 1 2 19] false [2])
 (.ret))))),false⟩
def a3V:Fn:=⟨4,21,[(8,none)],
 (.seq (.region 1 [
 I 0 4 (.box 0 (.t 0)),
 I 1 8 (.mv (kB false))] false [1,2,3,4])
 (.seq (.region 0 [
 I 0 9 (oS 12 4),
 M 1 10 1,
 M 2 11 2,
 M 3 12 3,
 I 4 13 (o4 145 9 10 11 12),
 M 5 14 13,
 U 6 15 14 (oS 12 4),
 U 7 16 14 (oM 1),
 U 8 17 14 (oM 2),
 U 9 18 14 (oM 3),
 U 10 19 14 (o4 146 15 16 17 18),
 I 11 20 (oO 14 19),
 M 12 8 20] false [8])
 (.ret))),false⟩
def a5b:Fn:=⟨2,11,[(4,none)],
 (.seq (.region 1 [
 I 0 2 (.box 0 (.t 0)),
 I 1 4 (.mv (kB false))] false [1,2])
 (.seq (.region 0 [
 M 0 5 1,
 I 1 6 (oF 0 2),
 I 2 7 (oL 6),
 I 3 8 (oN 1 7),
 I 4 9 (oK .sub 8 1),
 I 5 10 (.call true (.f 150) [.t 5,.k (.sc (.int .i64 0)),.t 9]),
 M 6 4 10] false [4])
 (.ret))),false⟩
def a6G:Fn:=⟨2,11,[(4,none)],
 (.seq (.region 1 [
 I 0 2 (.box 0 (.t 0)),
 I 1 4 (.mv (kB false))] false [1,2])
 (.seq (.region 0 [
 M 0 5 1,
 I 1 6 (oF 7 2),
 I 2 7 (oL 6),
 I 3 8 (oN 1 7),
 I 4 9 (oK .sub 8 1),
 I 5 10 (.call true (.f 150) [.t 5,.k (.sc (.int .i64 0)),.t 9]),
 M 6 4 10] false [4])
 (.ret))),false⟩
def a1E:AC :=
 (.seq (.region 0 [
 I 0 28 (oB .lss 27 26)] false [1,2,3,4,8,9,11,15,16,17,25,26,27,28])
 (.seq (.cond (.t 28)
 (.skip)
 (.exit 2))
 (.seq (.block 3 (.seq (.region 0 [
 I 0 29 (oI 1 25 27),
 I 1 30 (oL 29),
 M 2 13 30] false [1,2,3,4,8,9,11,13,15,16,17,25,26,27])
 (.region 0 [
 I 0 31 (.mv (.tk 9)),
 I 1 32 (oS 12 4),
 I 2 33 (oF 0 11),
 I 3 34 (oS 3 33),
 M 4 35 1,
 M 5 36 13,
 M 6 37 2,
 M 7 38 3,
 I 8 39 (.call true (.f 188) [.t 32,.t 34,.t 35,.t 36,.t 37,.t 38]),
 I 9 40 (.bslice 1 1 [.int .i64 0] [(0,.t 39)]),
 I 10 41 (.append 1 (.tk 31) (.t 40)),
 I 11 9 (.mv (.tk 41))] false [1,2,3,4,8,9,11,15,16,17,25,26,27])))
 (.region 0 [
 I 0 42 (oK .add 27 1),
 M 1 27 42] false [1,2,3,4,8,9,11,15,16,17,25,26,27]))))
def a6L:AC:=.loop [1,2,3,4,8,9,11,15,16,17,25,26,27] a1E
def a1D:AC :=
 (.seq (.region 0 [
 I 0 18 (oB .lss 17 16)] false [1,2,3,4,8,9,15,16,17,18])
 (.seq (.cond (.t 18)
 (.skip)
 (.exit 0))
 (.seq (.block 1 (.seq (.region 1 [
 I 0 19 (oI 4 15 17),
 I 1 20 (oS 4 19),
 I 2 11 (.alloc 0 [.int .i64 0,.int .i64 0,.int .i64 0,.sl .nil 1 []]),
 J 3 (.store 4 (.t 11) (.t 20))] false [1,2,3,4,8,9,11,15,16,17])
 (.seq (.region 0 [
 I 0 21 (oF 3 11),
 I 1 22 (oL 21),
 M 2 23 1,
 I 3 24 (oI 1 22 23),
 I 4 25 (oL 24),
 I 5 26 (oN 1 25),
 I 6 27 (.mv (kI 0))] false [1,2,3,4,8,9,11,15,16,17,25,26,27])
 (.block 2 (a6L)))))
 (.region 0 [
 I 0 43 (oK .add 17 1),
 M 1 17 43] false [1,2,3,4,8,9,15,16,17]))))
def a6K:AC:=.loop [1,2,3,4,8,9,15,16,17] a1D
def a4H:Fn:=⟨4,52,[(8,some (some 2))],
 (.seq (.region 2 [
 I 0 4 (.box 0 (.t 0)),
 I 1 8 (.alloc 1 [.int .i64 0,.int .i64 0])] false [1,2,3,4,8])
 (.seq (.region 0 [
 I 0 9 (.mv (.k (.sc (.sl .nil 1 []))))] false [1,2,3,4,8,9])
 (.seq (.seq (.region 0 [
 I 0 14 (oF 11 4),
 I 1 15 (oL 14),
 I 2 16 (oN 1 15),
 I 3 17 (.mv (kI 0))] false [1,2,3,4,8,9,15,16,17])
 (.block 0 (a6K)))
 (.seq (.region 0 [
 M 0 44 9,
 I 1 45 (.iaddr 1 (.t 44) (kI 0)),
 I 2 46 (oL 45),
 M 3 47 9,
 I 4 48 (o2 169 46 47),
 M 5 49 9,
 I 6 50 (o1 189 49),
 I 7 51 (.build [.int .i64 0,.int .i64 0] [(0,1,.t 48),(1,1,.t 50)]),
 J 8 (.store 2 (.t 8) (.t 51))] false [8])
 (.ret))))),false⟩
def a3U:Fn:=⟨4,16,[(8,none)],
 (.seq (.region 1 [
 I 0 4 (.box 0 (.t 0)),
 I 1 8 (.mv (kB false))] false [1,2,3,4])
 (.seq (.region 0 [
 I 0 9 (oS 12 4),
 M 1 10 1,
 M 2 11 2,
 M 3 12 3,
 I 4 13 (o4 167 9 10 11 12),
 I 5 14 (.field 0 none (.t 13)),
 I 6 15 (oK .lss 14 0),
 M 7 8 15] false [8])
 (.ret))),false⟩
def a0x:AC :=
 (.seq (.region 0 [
 I 0 10 (oB .lss 9 8)] false [1,2,7,8,9,10])
 (.seq (.cond (.t 10)
 (.skip)
 (.exit 0))
 (.seq (.block 1 (.seq (.region 1 [
 M 0 11 9,
 I 1 12 (oI 2 7 9),
 I 2 13 (oS 2 12),
 I 3 6 (.alloc 0 [.int .i64 0,.int .i64 0]),
 M 4 5 11,
 J 5 (.store 2 (.t 6) (.t 13))] false [1,2,5,6,7,8,9])
 (.seq (.region 0 [
 I 0 14 (oS 10 2),
 I 1 15 (oF 0 6),
 I 2 16 (oL 15),
 I 3 17 (o2 152 14 16),
 I 4 18 (oU .not 17),
 M 5 19 18,
 U 6 20 19 (oF 0 6),
 U 7 21 19 (oL 20),
 U 8 22 19 (oS 10 2),
 U 9 23 19 (o1 112 22),
 U 10 24 19 (oB .lss 21 23),
 I 11 25 (oO 19 24),
 M 12 26 25,
 U 13 27 26 (oS 10 2),
 U 14 28 26 (oF 1 6),
 U 15 29 26 (oL 28),
 U 16 30 26 (o2 153 27 29),
 U 17 31 26 (oU .not 30),
 I 18 32 (oO 26 31),
 M 19 33 32,
 U 20 34 33 (oF 8 2),
 U 21 35 33 (oL 34),
 U 22 36 33 (oS 2 6),
 U 23 37 33 (o2 155 35 36),
 I 24 38 (oO 33 37),
 M 25 39 38,
 U 26 40 39 (oM 5),
 U 27 41 39 (oK .gtr 40 0),
 U 28 42 39 (oM 41),
 Y 29 43 42 (oM 1),
 Y 30 44 42 (oM 5),
 Y 31 45 42 (oK .sub 44 1),
 Y 32 46 42 (oI 2 43 45),
 Y 33 47 42 (oS 2 46),
 Y 34 48 42 (oS 2 6),
 Y 35 49 42 (o2 131 47 48),
 Y 36 50 42 (oK .geq 49 0),
 U 37 51 39 (oA 42 50),
 I 38 52 (oO 39 51)] true [1,2,7,8,9,52])
 (.cond (.t 52)
 (.seq (.region 0 [
 I 0 4 (.mv (kB false))] false [4])
 (.ret))
 (.skip)))))
 (.region 0 [
 I 0 53 (oK .add 9 1),
 M 1 9 53] false [1,2,7,8,9]))))
def b1m:AC:=.loop [1,2,7,8,9] a0x
def a5M:Fn:=⟨2,54,[(4,none)],
 (.seq (.region 1 [
 I 0 2 (.box 0 (.t 0)),
 I 1 4 (.mv (kB false))] false [1,2])
 (.seq (.seq (.region 0 [
 M 0 7 1,
 I 1 8 (oN 1 7),
 I 2 9 (.mv (kI 0))] false [1,2,7,8,9])
 (.block 0 (b1m)))
 (.seq (.region 0 [
 I 0 4 (.mv (kB true))] false [4])
 (.ret)))),false⟩
def a1s:AC :=
 (.seq (.region 0 [
 I 0 22 (oB .lss 21 20)] false [5,19,20,21,22])
 (.seq (.cond (.t 22)
 (.skip)
 (.exit 2))
 (.seq (.block 3 (.seq (.region 1 [
 I 0 23 (oI 2 19 21),
 I 1 24 (oS 2 23),
 I 2 8 (.alloc 0 [.int .i64 0,.int .i64 0]),
 J 3 (.store 2 (.t 8) (.t 24))] false [5,8,19,20,21])
 (.seq (.region 1 [
 I 0 25 (oF 0 8),
 I 1 26 (oL 25),
 I 2 27 (oF 1 8),
 I 3 28 (oL 27),
 I 4 29 (.build [.int .i64 0,.int .i64 0] [(0,1,.t 26),(1,1,.t 28)]),
 I 5 9 (.alloc 0 [.int .i64 0,.int .i64 0]),
 J 6 (.store 2 (.t 9) (.t 29))] false [5,9,19,20,21])
 (.seq (.region 0 [
 I 0 30 (oS 2 9),
 I 1 31 (.load (some 2) (.g 3)),
 I 2 32 (.eqf true ⟨true,[1,1]⟩ (.t 30) (.t 31))] false [5,9,19,20,21,32])
 (.cond (.t 32)
 (.region 0 [
 M 0 33 5,
 I 1 34 (oS 2 9),
 J 2 (.sadd 2 (.t 33) (.t 34))] false [5,19,20,21])
 (.skip))))))
 (.region 0 [
 I 0 35 (oK .add 21 1),
 M 1 21 35] false [5,19,20,21]))))
def a6H:AC:=.loop [5,19,20,21] a1s
def a4h:Fn:=⟨2,37,[(4,none)],
 (.seq (.region 0 [
 I 0 4 (.mv (.k (.sc (.imap true false []))))] false [0,1])
 (.seq (.region 1 [
 I 0 10 (.mkset 0 2),
 M 1 5 10] false [0,1,5])
 (.seq (.seq (.region 1 [
 M 0 11 0,
 I 1 12 (.rng 0 (.t 11))] false [1,5,12])
 (.union [1,5] 12 5 2))
 (.seq (.seq (.region 0 [
 M 0 19 1,
 I 1 20 (oN 1 19),
 I 2 21 (.mv (kI 0))] false [5,19,20,21])
 (.block 2 (a6H)))
 (.seq (.region 0 [
 M 0 36 5,
 M 1 4 36] false [4])
 (.ret)))))),false⟩
def a3E:AC :=
 (.seq (.seq (.region 0 [
 M 0 11 7,
 I 1 12 (oF 0 3),
 I 2 13 (oF 7 12),
 I 3 14 (oL 13),
 I 4 15 (oN 1 14),
 I 5 16 (oB .lss 11 15)] false [1,2,3,7,16])
 (.cond (.t 16)
 (.skip)
 (.exit 0)))
 (.seq (.block 1 (.seq (.region 0 [
 I 0 19 (oS 12 3),
 M 1 20 1,
 M 2 21 7,
 M 3 22 2,
 I 4 23 (o4 113 19 20 21 22)] false [1,2,3,7,23])
 (.cond (.t 23)
 (.seq (.region 0 [
 I 0 6 (.mv (kB false))] false [6])
 (.ret))
 (.skip))))
 (.region 0 [
 M 0 17 7,
 I 1 18 (oK .add 17 1),
 M 2 7 18] false [1,2,3,7])))
def a9K:AC:=.loop [1,2,3,7] a3E
def a4I:Fn:=⟨3,24,[(6,none)],
 (.seq (.region 1 [
 I 0 3 (.box 0 (.t 0)),
 I 1 6 (.mv (kB false))] false [1,2,3])
 (.seq (.seq (.region 0 [
 I 0 8 (oF 0 3),
 I 1 9 (oS 10 8),
 I 2 10 (o1 112 9),
 M 3 7 10] false [1,2,3,7])
 (.block 0 (a9K)))
 (.seq (.region 0 [
 I 0 6 (.mv (kB true))] false [6])
 (.ret)))),false⟩
def a3g:AC :=
 (.seq (.region 0 [
 I 0 24 (oB .lss 23 22)] false [1,2,5,6,22,23,24])
 (.seq (.cond (.t 24)
 (.skip)
 (.exit 2))
 (.seq (.block 3 (.seq (.region 0 [
 M 0 25 23,
 M 1 7 25] false [1,2,5,6,7,22,23])
 (.seq (.region 0 [
 M 0 26 1,
 M 1 27 5,
 M 2 28 7,
 I 3 29 (.build [.int .i64 0,.int .i64 0] [(0,1,.t 27),(1,1,.t 28)]),
 I 4 30 (.slook 2 (.t 26) (.t 29)),
 I 5 31 (oU .not 30)] false [1,2,5,6,22,23,31])
 (.cond (.t 31)
 (.region 0 [
 M 0 32 6,
 I 1 33 (oK .add 32 1),
 M 2 6 33] false [1,2,5,6,22,23])
 (.skip)))))
 (.region 0 [
 I 0 34 (oK .add 23 1),
 M 1 23 34] false [1,2,5,6,22,23]))))
def a6e:AC:=.loop [1,2,5,6,22,23] a3g
def a1k:AC :=
 (.seq (.seq (.region 0 [
 M 0 11 5,
 I 1 12 (oF 0 2),
 I 2 13 (oF 7 12),
 I 3 14 (oL 13),
 I 4 15 (oN 1 14),
 I 5 16 (oB .lss 11 15)] false [1,2,5,16])
 (.cond (.t 16)
 (.skip)
 (.exit 0)))
 (.seq (.block 1 (.seq (.region 0 [
 I 0 6 (.mv (kI 0))] false [1,2,5,6])
 (.seq (.seq (.region 0 [
 I 0 19 (oF 0 2),
 I 1 20 (oF 0 19),
 I 2 21 (oL 20),
 I 3 22 (oN 1 21),
 I 4 23 (.mv (kI 0))] false [1,2,5,6,22,23])
 (.block 2 (a6e)))
 (.seq (.region 0 [
 M 0 35 6,
 I 1 36 (oF 0 2),
 I 2 37 (oF 7 36),
 I 3 38 (oL 37),
 M 4 39 5,
 I 5 40 (oI 3 38 39),
 I 6 41 (oF 2 40),
 I 7 42 (oL 41),
 I 8 43 (oB .lss 35 42)] false [1,2,5,43])
 (.cond (.t 43)
 (.seq (.region 0 [
 I 0 4 (.mv (kB false))] false [4])
 (.ret))
 (.skip))))))
 (.region 0 [
 M 0 17 5,
 I 1 18 (oK .add 17 1),
 M 2 5 18] false [1,2,5])))
def a9c:AC:=.loop [1,2,5] a1k
def a2j:Fn:=⟨2,44,[(4,none)],
 (.seq (.region 1 [
 I 0 2 (.box 0 (.t 0)),
 I 1 4 (.mv (kB false))] false [1,2])
 (.seq (.seq (.region 0 [
 I 0 8 (oF 0 2),
 I 1 9 (oS 10 8),
 I 2 10 (o1 112 9),
 M 3 5 10] false [1,2,5])
 (.block 0 (a9c)))
 (.seq (.region 0 [
 I 0 4 (.mv (kB true))] false [4])
 (.ret)))),false⟩
def a5Q:Fn:=⟨3,15,[(6,none)],
 (.seq (.region 0 [
 I 0 6 (.mv (kB false))] false [0,1,2])
 (.seq (.region 0 [
 M 0 7 1,
 M 1 8 0,
 I 2 9 (oB .leq 7 8),
 M 3 10 9,
 Y 4 11 10 (oM 0),
 Y 5 12 10 (oM 2),
 Y 6 13 10 (oB .leq 11 12),
 I 7 14 (oA 10 13),
 M 8 6 14] false [6])
 (.ret))),false⟩
def a5O:Fn:=⟨3,32,[(6,none)],
 (.seq (.region 1 [
 I 0 3 (.box 0 (.t 0)),
 I 1 6 (.mv (kB false))] false [1,2,3])
 (.seq (.region 0 [
 I 0 7 (oF 0 3),
 I 1 8 (oL 7),
 I 2 9 (.bin .leq (kI 0) (.t 8)),
 M 3 10 9,
 Y 4 11 10 (oF 0 3),
 Y 5 12 10 (oL 11),
 Y 6 13 10 (oF 1 3),
 Y 7 14 10 (oL 13),
 Y 8 15 10 (oB .leq 12 14),
 I 9 16 (oA 10 15),
 M 10 17 16,
 Y 11 18 17 (oF 1 3),
 Y 12 19 17 (oL 18),
 Y 13 20 17 (oM 1),
 Y 14 21 17 (oB .leq 19 20),
 I 15 22 (oA 17 21),
 M 16 23 22,
 Y 17 24 23 (oF 1 3),
 Y 18 25 23 (oL 24),
 Y 19 26 23 (oF 0 3),
 Y 20 27 23 (oL 26),
 Y 21 28 23 (oB .sub 25 27),
 Y 22 29 23 (oM 2),
 Y 23 30 23 (oB .leq 28 29),
 I 24 31 (oA 23 30),
 M 25 6 31] false [6])
 (.ret))),false⟩
def a2q:AC :=
 (.seq (.region 0 [
 I 0 10 (oB .lss 9 8)] false [0,7,8,9,10])
 (.seq (.cond (.t 10)
 (.skip)
 (.exit 0))
 (.seq (.block 1 (.seq (.region 0 [
 I 0 11 (oI 1 7 9),
 I 1 12 (oL 11),
 M 2 6 12] false [0,6,7,8,9])
 (.region 0 [
 M 0 13 0,
 M 1 14 6,
 I 2 15 (.min (.t 13) [.t 14]),
 M 3 0 15] false [0,7,8,9])))
 (.region 0 [
 I 0 16 (oK .add 9 1),
 M 1 9 16] false [0,7,8,9]))))
def a6M:AC:=.loop [0,7,8,9] a2q
def a4J:Fn:=⟨2,18,[(4,none)],
 (.seq (.region 0 [
 I 0 4 (.mv (kI 0))] false [0,1])
 (.seq (.seq (.region 0 [
 M 0 7 1,
 I 1 8 (oN 1 7),
 I 2 9 (.mv (kI 0))] false [0,7,8,9])
 (.block 0 (a6M)))
 (.seq (.region 0 [
 M 0 17 0,
 M 1 4 17] false [4])
 (.ret)))),false⟩
def a5u:Fn:=⟨2,17,[(4,none)],
 (.seq (.region 2 [
 I 0 2 (.box 0 (.t 0)),
 I 1 3 (.box 1 (.t 1)),
 I 2 4 (.mv (kI 0))] false [2,3])
 (.seq (.region 0 [
 I 0 5 (oF 0 2),
 I 1 6 (oL 5),
 I 2 7 (oF 0 3),
 I 3 8 (oL 7),
 I 4 9 (o2 163 6 8),
 I 5 10 (oF 1 2),
 I 6 11 (oL 10),
 I 7 12 (oF 1 3),
 I 8 13 (oL 12),
 I 9 14 (o2 163 11 13),
 I 10 15 (.bslice 1 2 [.int .i64 0] [(0,.t 9),(1,.t 14)]),
 I 11 16 (o1 164 15),
 M 12 4 16] true [4])
 (.ret))),false⟩
def a1r:AC :=
 (.seq (.region 0 [
 I 0 18 (oB .lss 17 16)] false [2,3,4,5,6,15,16,17,18])
 (.seq (.cond (.t 18)
 (.skip)
 (.exit 0))
 (.seq (.block 1 (.seq (.region 1 [
 M 0 19 17,
 I 1 20 (oI 4 15 17),
 I 2 21 (oS 4 20),
 I 3 12 (.alloc 0 [.int .i64 0,.int .i64 0,.int .i64 0,.int .i64 0]),
 M 4 11 19,
 J 5 (.store 4 (.t 12) (.t 21))] false [2,3,4,5,6,11,12,15,16,17])
 (.seq (.region 0 [
 I 0 22 (oF 0 12),
 I 1 23 (oL 22),
 M 2 24 2,
 I 3 25 (oB .eql 23 24),
 M 4 26 25,
 Y 5 27 26 (oM 4),
 Y 6 28 26 (oM 11),
 Y 7 29 26 (o2 76 27 28),
 Y 8 30 26 (oU .not 29),
 I 9 31 (oA 26 30),
 M 10 32 31,
 Y 11 33 32 (oF 2 12),
 Y 12 34 32 (oL 33),
 Y 13 35 32 (oS 12 5),
 Y 14 36 32 (oS 3 6),
 Y 15 37 32 (oM 2),
 Y 16 38 32 (oM 3),
 Y 17 39 32 (oF 1 12),
 Y 18 40 32 (oL 39),
 Y 19 41 32 (oF 10 5),
 Y 20 42 32 (oL 41),
 Y 21 43 32 (.call true (.f 188) [.t 35,.t 36,.t 37,.t 38,.t 40,.t 42]),
 Y 22 44 32 (oB .sub 34 43),
 Y 23 45 32 (oF 3 12),
 Y 24 46 32 (oL 45),
 Y 25 47 32 (oU .neg 46),
 Y 26 48 32 (oF 3 12),
 Y 27 49 32 (oL 48),
 Y 28 50 32 (o3 150 44 47 49),
 Y 29 51 32 (oU .not 50),
 I 30 52 (oA 32 51)] true [2,3,4,5,6,15,16,17,52])
 (.cond (.t 52)
 (.seq (.region 0 [
 I 0 10 (.mv (kB false))] false [10])
 (.ret))
 (.skip)))))
 (.region 0 [
 I 0 53 (oK .add 17 1),
 M 1 17 53] false [2,3,4,5,6,15,16,17]))))
def a6F:AC:=.loop [2,3,4,5,6,15,16,17] a1r
def a3m:Fn:=⟨5,54,[(10,none)],
 (.seq (.region 2 [
 I 0 5 (.box 0 (.t 0)),
 I 1 6 (.box 1 (.t 1)),
 I 2 10 (.mv (kB false))] false [2,3,4,5,6])
 (.seq (.seq (.region 0 [
 I 0 13 (oF 0 5),
 I 1 14 (oF 9 13),
 I 2 15 (oL 14),
 I 3 16 (oN 1 15),
 I 4 17 (.mv (kI 0))] false [2,3,4,5,6,15,16,17])
 (.block 0 (a6F)))
 (.seq (.region 0 [
 I 0 10 (.mv (kB true))] false [10])
 (.ret)))),false⟩
def a3W:Fn:=⟨1,4,[(2,none)],
 (.seq (.region 1 [
 I 0 1 (.box 0 (.t 0)),
 I 1 2 (.mv (.k (.sc .nilf)))] false [1])
 (.frz 1 (.seq (.region 0 [
 I 0 3 (.mkf 190 [] [] [.t 1]),
 M 1 2 3] false [2])
 (.ret)))),false⟩
def a0J:AC :=
 (.seq (.seq (.region 0 [
 M 0 12 9,
 M 1 13 2,
 I 2 14 (oB .leq 12 13)] false [1,2,3,4,9,14])
 (.cond (.t 14)
 (.skip)
 (.exit 0)))
 (.seq (.block 1 (.seq (.region 0 [
 M 0 17 9,
 I 1 18 (oK .lss 17 0),
 M 2 19 18,
 U 3 20 19 (oF 0 4),
 U 4 21 19 (oF 7 20),
 U 5 22 19 (oL 21),
 U 6 23 19 (oM 9),
 U 7 24 19 (oI 3 22 23),
 U 8 25 19 (oF 1 24),
 U 9 26 19 (oL 25),
 U 10 27 19 (oK .eql 26 0),
 I 11 28 (oO 19 27),
 M 12 29 28,
 U 13 30 29 (oM 3),
 U 14 31 29 (oM 9),
 U 15 32 29 (oM 1),
 U 16 33 29 (.build [.int .i64 0,.int .i64 0] [(0,1,.t 31),(1,1,.t 32)]),
 U 17 34 29 (.slook 2 (.t 30) (.t 33)),
 I 18 35 (oO 29 34)] false [1,2,3,4,9,35])
 (.cond (.t 35)
 (.seq (.region 0 [
 I 0 8 (.mv (kB false))] false [8])
 (.ret))
 (.skip))))
 (.region 0 [
 M 0 15 9,
 I 1 16 (oK .add 15 1),
 M 2 9 16] false [1,2,3,4,9])))
def a0K:AC:=.loop [1,2,3,4,9] a0J
def a0N:Fn:=⟨4,36,[(8,none)],
 (.seq (.region 1 [
 I 0 4 (.box 0 (.t 0)),
 I 1 8 (.mv (kB false))] false [1,2,3,4])
 (.seq (.seq (.region 0 [
 M 0 10 2,
 I 1 11 (oK .sub 10 2),
 M 2 9 11] false [1,2,3,4,9])
 (.block 0 (a0K)))
 (.seq (.region 0 [
 I 0 8 (.mv (kB true))] false [8])
 (.ret)))),false⟩
def a0Z:AC :=
 (.seq (.region 0 [
 I 0 22 (oB .lss 21 20)] false [2,3,5,6,7,13,14,20,21,22])
 (.seq (.cond (.t 22)
 (.skip)
 (.exit 0))
 (.seq (.block 1 (.seq (.region 0 [
 M 0 23 21,
 M 1 15 23] false [2,3,5,6,7,13,15,20,21])
 (.seq (.region 0 [
 I 0 16 (.mv (kI 1))] false [2,3,5,6,7,13,15,16,20,21])
 (.seq (.seq (.region 0 [
 M 0 24 5,
 M 1 25 15,
 M 2 26 2,
 I 3 27 (.build [.int .i64 0,.int .i64 0] [(0,1,.t 25),(1,1,.t 26)]),
 I 4 28 (.slook 2 (.t 24) (.t 27))] false [2,3,5,6,7,13,15,16,20,21,28])
 (.cond (.t 28)
 (.region 0 [
 I 0 16 (.mv (kI 0))] false [2,3,5,6,7,13,15,16,20,21])
 (.skip)))
 (.seq (.region 0 [
 M 0 29 16,
 I 1 30 (.iarr 2 1 (.g 4) (.t 29)),
 I 2 31 (oL 30),
 I 3 32 (oS 3 7),
 M 4 33 13,
 I 5 34 (oF 0 6),
 I 6 35 (oF 7 34),
 I 7 36 (oL 35),
 M 8 37 15,
 I 9 38 (oI 3 36 37),
 I 10 39 (oS 3 38),
 I 11 40 (.call true (.t 31) [.t 32,.t 33,.t 39]),
 M 12 14 40] true [2,3,5,6,7,14,20,21])
 (.region 0 [
 M 0 41 3,
 M 1 42 14,
 I 2 43 (.iarr 3 1 (.t 7) (kI 2)),
 I 3 44 (oL 43),
 I 4 45 (oB .add 42 44),
 I 5 46 (.bslice 1 1 [.int .i64 0] [(0,.t 45)]),
 I 6 47 (o2 169 41 46),
 M 7 13 47] false [2,3,5,6,7,13,14,20,21]))))))
 (.region 0 [
 I 0 48 (oK .add 21 1),
 M 1 21 48] false [2,3,5,6,7,13,14,20,21]))))
def a6J:AC:=.loop [2,3,5,6,7,13,14,20,21] a0Z
def a4G:Fn:=⟨6,50,[(12,none)],
 (.seq (.region 2 [
 I 0 6 (.box 0 (.t 0)),
 I 1 7 (.box 1 (.t 1)),
 I 2 12 (.mv (kI 0))] false [2,3,4,5,6,7])
 (.seq (.region 0 [
 M 0 17 3,
 M 1 18 3,
 M 2 13 17,
 M 3 14 18] false [2,3,4,5,6,7,13,14])
 (.seq (.seq (.region 0 [
 M 0 19 4,
 I 1 20 (oK .add 19 1),
 I 2 21 (.mv (kI 0))] false [2,3,5,6,7,13,14,20,21])
 (.block 0 (a6J)))
 (.seq (.region 0 [
 M 0 49 14,
 M 1 12 49] false [12])
 (.ret))))),false⟩
def a2f:AC :=
 (.seq (.seq (.region 0 [
 M 0 12 4,
 M 1 13 0,
 I 2 14 (oN 1 13),
 I 3 15 (oB .lss 12 14)] false [0,3,4,15])
 (.cond (.t 15)
 (.skip)
 (.exit 0)))
 (.seq (.block 1 (.region 0 [
 M 0 18 3,
 M 1 19 0,
 M 2 20 4,
 I 3 21 (oI 1 19 20),
 I 4 22 (oL 21),
 I 5 23 (.max (.t 18) [.t 22]),
 M 6 3 23] false [0,3,4]))
 (.region 0 [
 M 0 16 4,
 I 1 17 (oK .add 16 1),
 M 2 4 17] false [0,3,4])))
def a6d:AC:=.loop [0,3,4] a2f
def a3S:Fn:=⟨1,25,[(2,none)],
 (.seq (.region 0 [
 I 0 2 (.mv (kI 0))] false [0])
 (.seq (.seq (.region 0 [
 M 0 5 0,
 I 1 6 (oN 1 5),
 I 2 7 (oK .lss 6 1)] false [0,7])
 (.cond (.t 7)
 (.stuck)
 (.skip)))
 (.seq (.region 0 [
 M 0 9 0,
 I 1 10 (.iaddr 1 (.t 9) (kI 0)),
 I 2 11 (oL 10),
 M 3 3 11] false [0,3])
 (.seq (.seq (.region 0 [
 I 0 4 (.mv (kI 1))] false [0,3,4])
 (.block 0 (a6d)))
 (.seq (.region 0 [
 M 0 24 3,
 M 1 2 24] false [2])
 (.ret)))))),false⟩
def a1m:Fn:=⟨2,9,[(4,none)],
 (.seq (.region 1 [
 I 0 3 (.box 0 (.t 1)),
 I 1 4 (.mv (kB false))] false [0,3])
 (.seq (.region 0 [
 M 0 5 0,
 I 1 6 (oS 2 3),
 I 2 7 (o2 175 5 6),
 I 3 8 (oK .geq 7 0),
 M 4 4 8] false [4])
 (.ret))),false⟩
def a5H:AC :=
 (.seq (.region 0 [
 I 0 9 (oB .lss 8 7)] false [3,6,7,8,9])
 (.seq (.cond (.t 9)
 (.skip)
 (.exit 0))
 (.seq (.block 1 (.seq (.region 0 [
 I 0 10 (oI 1 6 8),
 I 1 11 (oL 10),
 M 2 5 11] false [3,5,6,7,8])
 (.seq (.region 0 [
 M 0 12 5,
 M 1 13 3,
 I 2 14 (oB .neq 12 13)] false [3,5,6,7,8,14])
 (.cond (.t 14)
 (.seq (.region 0 [
 M 0 15 5,
 M 1 2 15] false [2])
 (.ret))
 (.skip)))))
 (.region 0 [
 I 0 16 (oK .add 8 1),
 M 1 8 16] false [3,6,7,8]))))
def a5I:AC:=.loop [3,6,7,8] a5H
def a5n:Fn:=⟨1,18,[(2,none)],
 (.seq (.region 0 [
 I 0 2 (.mv (kI 0))] false [0])
 (.seq (.region 0 [
 I 0 3 (.mv (kI 0))] false [0,3])
 (.seq (.seq (.region 0 [
 M 0 6 0,
 I 1 7 (oN 1 6),
 I 2 8 (.mv (kI 0))] false [3,6,7,8])
 (.block 0 (a5I)))
 (.seq (.region 0 [
 M 0 17 3,
 M 1 2 17] false [2])
 (.ret))))),false⟩
def cmp_Compare_int:Fn:=⟨2,20,[(4,none)],
 (.seq (.region 0 [
 I 0 4 (.mv (kI 0))] false [0,1])
 (.seq (.region 0 [
 M 0 7 0,
 I 1 8 (o1 177 7),
 M 2 5 8] false [0,1,5])
 (.seq (.region 0 [
 M 0 9 1,
 I 1 10 (o1 177 9),
 M 2 6 10] false [0,1,5,6])
 (.seq (.seq (.region 0 [
 M 0 11 5] false [0,1,6,11])
 (.cond (.t 11)
 (.seq (.seq (.region 0 [
 M 0 12 6] false [12])
 (.cond (.t 12)
 (.seq (.region 0 [
 I 0 4 (.mv (kI 0))] false [4])
 (.ret))
 (.skip)))
 (.seq (.region 0 [
 I 0 4 (.mv (kI (-1)))] false [4])
 (.ret)))
 (.skip)))
 (.seq (.seq (.region 0 [
 M 0 13 6] false [0,1,13])
 (.cond (.t 13)
 (.seq (.region 0 [
 I 0 4 (.mv (kI 1))] false [4])
 (.ret))
 (.skip)))
 (.seq (.seq (.region 0 [
 M 0 14 0,
 M 1 15 1,
 I 2 16 (oB .lss 14 15)] false [0,1,16])
 (.cond (.t 16)
 (.seq (.region 0 [
 I 0 4 (.mv (kI (-1)))] false [4])
 (.ret))
 (.skip)))
 (.seq (.seq (.region 0 [
 M 0 17 0,
 M 1 18 1,
 I 2 19 (oB .gtr 17 18)] false [19])
 (.cond (.t 19)
 (.seq (.region 0 [
 I 0 4 (.mv (kI 1))] false [4])
 (.ret))
 (.skip)))
 (.seq (.region 0 [
 I 0 4 (.mv (kI 0))] false [4])
 (.ret))))))))),false⟩
def a5J:Fn:=⟨1,8,[(2,none)],
 (.seq (.region 0 [
 I 0 2 (.mv (kI 0))] false [0])
 (.seq (.cond (.k (.sc (.bool false)))
 (.seq (.region 0 [
 M 0 3 0,
 I 1 4 (.conv .u32 (.t 3)),
 I 2 5 (o1 186 4),
 M 3 2 5] false [2])
 (.ret))
 (.skip))
 (.seq (.region 0 [
 M 0 6 0,
 I 1 7 (o1 187 6),
 M 2 2 7] false [2])
 (.ret)))),false⟩
def a2Q:Fn:=⟨2,9,[(4,none)],
 (.seq (.region 0 [
 I 0 4 (.mv (kB false))] false [0,1])
 (.seq (.region 0 [
 M 0 5 0,
 M 1 6 1,
 I 2 7 (o2 83 5 6),
 I 3 8 (oK .geq 7 0),
 M 4 4 8] false [4])
 (.ret))),false⟩
def a3u:Fn:=⟨2,8,[],
 (.seq (.region 1 [
 I 0 2 (.box 0 (.t 0))] false [1,2])
 (.seq (.region 1 [
 I 0 3 (.alloc 0 [.nilf])] false [1,2,3])
 (.seq (.region 0 [
 I 0 4 (.mkf 196 [] [] [.t 2,.t 1,.t 3]),
 J 1 (.store 1 (.t 3) (.t 4))] false [3])
 (.region 0 [
 I 0 5 (oL 3),
 I 1 6 (.call true (.f 197) []),
 I 2 7 (.call false (.t 5) [.t 6,.k (.sc (.int .i64 0))])] true [])))),false⟩
def a0u:AC :=
 (.seq (.region 0 [
 I 0 27 (oB .lss 26 25)] false [1,4,5,8,25,26,27])
 (.seq (.cond (.t 27)
 (.skip)
 (.exit 0))
 (.seq (.block 1 (.seq (.region 0 [
 M 0 28 26,
 M 1 9 28] false [1,4,5,8,9,25,26])
 (.seq (.region 0 [
 M 0 29 1,
 I 1 30 (oF 0 8),
 I 2 31 (oL 30),
 M 3 32 9,
 I 4 33 (oB .add 31 32),
 I 5 34 (.iarr 3 1 (.t 5) (.t 29)),
 J 6 (.store 1 (.t 34) (.t 33))] false [1,4,5,8,25,26])
 (.seq (.region 0 [
 I 0 35 (oL 4),
 I 1 36 (oS 3 5),
 M 2 37 1,
 I 3 38 (oK .add 37 1),
 I 4 39 (.call false (.t 35) [.t 36,.t 38]),
 I 5 40 (oU .not 39)] false [1,4,5,8,25,26,40])
 (.cond (.t 40)
 (.seq (.region 0 [
 I 0 7 (.mv (kB false))] false [7])
 (.ret))
 (.skip))))))
 (.region 0 [
 I 0 41 (oK .add 26 1),
 M 1 26 41] false [1,4,5,8,25,26]))))
def a7A:AC:=.loop [1,4,5,8,25,26] a0u
def a1O:Fn:=⟨5,42,[(7,none)],
 (.seq (.region 1 [
 I 0 5 (.box 0 (.t 0)),
 I 1 7 (.mv (kB false))] false [1,2,3,4,5])
 (.seq (.seq (.region 0 [
 M 0 10 1,
 I 1 11 (oK .eql 10 3)] false [1,2,3,4,5,11])
 (.cond (.t 11)
 (.seq (.region 0 [
 I 0 12 (oL 2),
 I 1 13 (oS 3 5),
 I 2 14 (.call false (.t 12) [.t 13]),
 M 3 7 14] false [7])
 (.ret))
 (.skip)))
 (.seq (.region 1 [
 M 0 15 1,
 I 1 16 (oF 0 3),
 I 2 17 (oF 1 16),
 I 3 18 (.iarr 3 2 (.t 17) (.t 15)),
 I 4 19 (oS 2 18),
 I 5 8 (.alloc 0 [.int .i64 0,.int .i64 0]),
 J 6 (.store 2 (.t 8) (.t 19))] false [1,4,5,8])
 (.seq (.seq (.region 0 [
 I 0 20 (oF 1 8),
 I 1 21 (oL 20),
 I 2 22 (oF 0 8),
 I 3 23 (oL 22),
 I 4 24 (oB .sub 21 23),
 I 5 25 (oK .add 24 1),
 I 6 26 (.mv (kI 0))] false [1,4,5,8,25,26])
 (.block 0 (a7A)))
 (.seq (.region 0 [
 I 0 7 (.mv (kB true))] false [7])
 (.ret)))))),false⟩
def a5v:Fn:=⟨0,3,[(0,some (some 3))],
 (.seq (.region 1 [
 I 0 0 (.alloc 0 [.int .i64 0,.int .i64 0,.int .i64 0])] false [0])
 (.seq (.region 1 [
 I 0 1 (.alloc 0 [.int .i64 0,.int .i64 0,.int .i64 0])] false [0,1])
 (.seq (.region 0 [
 I 0 2 (oS 3 1),
 J 1 (.store 3 (.t 0) (.t 2))] false [0])
 (.ret)))),false⟩
def a0y:AC :=
 (.seq (.region 0 [
 I 0 9 (oB .lss 8 7)] false [0,3,7,8,9])
 (.seq (.cond (.t 9)
 (.skip)
 (.exit 0))
 (.seq (.block 1 (.seq (.region 0 [
 M 0 10 8,
 M 1 5 10] false [0,3,5,7,8])
 (.seq (.region 0 [
 I 0 11 (oS 2 3),
 M 1 12 0,
 M 2 13 5,
 I 3 14 (oI 2 12 13),
 I 4 15 (oS 2 14),
 I 5 16 (.eqf false ⟨true,[1,1]⟩ (.t 11) (.t 15))] true [0,3,5,7,8,16])
 (.cond (.t 16)
 (.seq (.region 0 [
 M 0 17 5,
 M 1 4 17] false [4])
 (.ret))
 (.skip)))))
 (.region 0 [
 I 0 18 (oK .add 8 1),
 M 1 8 18] false [0,3,7,8]))))
def a3R:AC:=.loop [0,3,7,8] a0y
def a1x:Fn:=⟨2,19,[(4,none)],
 (.seq (.region 1 [
 I 0 3 (.box 0 (.t 1)),
 I 1 4 (.mv (kI 0))] false [0,3])
 (.seq (.seq (.region 0 [
 M 0 6 0,
 I 1 7 (oN 1 6),
 I 2 8 (.mv (kI 0))] false [0,3,7,8])
 (.block 0 (a3R)))
 (.seq (.region 0 [
 I 0 4 (.mv (kI (-1)))] false [4])
 (.ret)))),false⟩
def cmp_isNaN_int:Fn:=⟨1,6,[(2,none)],
 (.seq (.region 0 [
 I 0 2 (.mv (kB false))] false [0])
 (.seq (.region 0 [
 M 0 3 0,
 M 1 4 0,
 I 2 5 (oB .neq 3 4),
 M 3 2 5] false [2])
 (.ret))),false⟩
def a0P:Fn:=⟨1,25,[(2,none)],
 (.seq (.region 0 [
 I 0 2 (.mv (kI 0))] false [0,2])
 (.seq (.seq (.region 0 [
 M 0 3 0,
 I 1 4 (.bin .geq (.t 3) (.k (.sc (.int .u64 4294967296))))] false [0,2,4])
 (.cond (.t 4)
 (.seq (.region 0 [
 M 0 5 0,
 I 1 6 (.bin .shr (.t 5) (.k (.sc (.int .u64 32)))),
 M 2 0 6] false [0])
 (.region 0 [
 I 0 2 (.mv (kI 32))] false [0,2]))
 (.skip)))
 (.seq (.seq (.region 0 [
 M 0 7 0,
 I 1 8 (.bin .geq (.t 7) (.k (.sc (.int .u64 65536))))] false [0,2,8])
 (.cond (.t 8)
 (.seq (.region 0 [
 M 0 9 0,
 I 1 10 (.bin .shr (.t 9) (.k (.sc (.int .u64 16)))),
 M 2 0 10] false [0,2])
 (.region 0 [
 M 0 11 2,
 I 1 12 (oK .add 11 16),
 M 2 2 12] false [0,2]))
 (.skip)))
 (.seq (.seq (.region 0 [
 M 0 13 0,
 I 1 14 (.bin .geq (.t 13) (.k (.sc (.int .u64 256))))] false [0,2,14])
 (.cond (.t 14)
 (.seq (.region 0 [
 M 0 15 0,
 I 1 16 (.bin .shr (.t 15) (.k (.sc (.int .u64 8)))),
 M 2 0 16] false [0,2])
 (.region 0 [
 M 0 17 2,
 I 1 18 (oK .add 17 8),
 M 2 2 18] false [0,2]))
 (.skip)))
 (.seq (.region 0 [
 M 0 19 2,
 M 1 20 0,
 I 2 21 (.conv .u8 (.t 20)),
 I 3 22 (.istr (.k (.sc (.str ⟨#[0,1,2,2,3,3,3,3,4,4,4,4,4,4,4,4,5,5,5,5,5,5,5,5,5,5,5,5,5,5,5,5,6,6,6,6,6,6,6,6,6,6,6,6,6,6,6,6,6,6,6,6,6,6,6,6,6,6,6,6,6,6,6,6,7,7,7,7,7,7,7,7,7,7,7,7,7,7,7,7,7,7,7,7,7,7,7,7,7,7,7,7,7,7,7,7,7,7,7,7,7,7,7,7,7,7,7,7,7,7,7,7,7,7,7,7,7,7,7,7,7,7,7,7,7,7,7,7,8,8,8,8,8,8,8,8,8,8,8,8,8,8,8,8,8,8,8,8,8,8,8,8,8,8,8,8,8,8,8,8,8,8,8,8,8,8,8,8,8,8,8,8,8,8,8,8,8,8,8,8,8,8,8,8,8,8,8,8,8,8,8,8,8,8,8,8,8,8,8,8,8,8,8,8,8,8,8,8,8,8,8,8,8,8,8,8,8,8,8,8,8,8,8,8,8,8,8,8,8,8,8,8,8,8,8,8,8,8,8,8,8,8,8,8,8,8,8,8,8,8,8,8,8,8,8,8]⟩))) (.t 21)),
 I 4 23 (.conv .i64 (.t 22)),
 I 5 24 (oB .add 19 23),
 M 6 2 24] false [2])
 (.ret)))))),false⟩
def a2R:AC :=
 (.seq (.region 0 [
 I 0 9 (oB .lss 8 7)] false [0,1,7,8,9])
 (.seq (.cond (.t 9)
 (.skip)
 (.exit 0))
 (.seq (.block 1 (.seq (.region 0 [
 M 0 10 8,
 M 1 5 10] false [0,1,5,7,8])
 (.seq (.region 0 [
 M 0 11 1,
 M 1 12 0,
 M 2 13 5,
 I 3 14 (oI 1 12 13),
 I 4 15 (oL 14),
 I 5 16 (oB .eql 11 15)] false [0,1,5,7,8,16])
 (.cond (.t 16)
 (.seq (.region 0 [
 M 0 17 5,
 M 1 4 17] false [4])
 (.ret))
 (.skip)))))
 (.region 0 [
 I 0 18 (oK .add 8 1),
 M 1 8 18] false [0,1,7,8]))))
def a8d:AC:=.loop [0,1,7,8] a2R
def a3r:Fn:=⟨2,19,[(4,none)],
 (.seq (.region 0 [
 I 0 4 (.mv (kI 0))] false [0,1])
 (.seq (.seq (.region 0 [
 M 0 6 0,
 I 1 7 (oN 1 6),
 I 2 8 (.mv (kI 0))] false [0,1,7,8])
 (.block 0 (a8d)))
 (.seq (.region 0 [
 I 0 4 (.mv (kI (-1)))] false [4])
 (.ret)))),false⟩
def a4g:Fn:=⟨3,8,[(6,none)],
 (.seq (.region 2 [
 I 0 3 (.box 0 (.t 0)),
 I 1 5 (.box 1 (.t 2)),
 I 2 6 (.mv (kI 0))] false [1])
 (.seq (.region 0 [
 M 0 7 1,
 M 1 6 7] false [6])
 (.ret))),false⟩
def a3n:Fn:=⟨3,24,[(6,none)],
 (.seq (.region 2 [
 I 0 3 (.box 0 (.t 0)),
 I 1 5 (.box 1 (.t 2)),
 I 2 6 (.mv (kI 0))] false [1,3,5])
 (.seq (.seq (.region 0 [
 I 0 7 (oS 3 3),
 I 1 8 (.call true (.f 197) []),
 I 2 9 (.eqf false ⟨true,[1,1,1]⟩ (.t 7) (.t 8))] true [1,3,5,9])
 (.cond (.t 9)
 (.seq (.region 0 [
 M 0 10 1,
 M 1 6 10] false [6])
 (.ret))
 (.skip)))
 (.seq (.region 0 [
 M 0 11 1,
 I 1 12 (oF 0 5),
 I 2 13 (oL 12),
 I 3 14 (.iarr 3 1 (.t 3) (kI 0)),
 I 4 15 (oL 14),
 I 5 16 (oB .mul 13 15),
 I 6 17 (oB .sub 11 16),
 I 7 18 (oF 1 5),
 I 8 19 (oL 18),
 I 9 20 (.iarr 3 1 (.t 3) (kI 1)),
 I 10 21 (oL 20),
 I 11 22 (oB .mul 19 21),
 I 12 23 (oB .sub 17 22),
 M 13 6 23] false [6])
 (.ret)))),false⟩
def g1W:AC :=
 (.seq (.seq (.region 0 [
 M 0 65 8,
 I 1 66 (oF 11 1),
 I 2 67 (oF 7 66),
 I 3 68 (oL 67),
 I 4 69 (oN 1 68),
 I 5 70 (oB .lss 65 69)] false [1,3,4,5,6,7,8,70])
 (.cond (.t 70)
 (.skip)
 (.exit 0)))
 (.seq (.block 1 (.seq (.region 0 [
 I 0 74 (oS 23 3),
 M 1 75 8,
 I 2 76 (o2 238 74 75),
 M 3 73 76,
 I 4 77 (oE 73 0),
 I 5 78 (oE 73 1),
 M 6 9 77,
 M 7 10 78] false [1,3,4,5,6,7,8,9,10])
 (.seq (.region 0 [
 M 0 79 10,
 I 1 80 (oK .neq 79 0),
 M 2 81 80,
 Y 3 82 81 (oM 10),
 Y 4 83 81 (oK .neq 82 102),
 Y 5 84 81 (oM 83),
 U 6 85 84 (oM 5),
 U 7 86 84 (oM 10),
 U 8 87 84 (oB .neq 85 86),
 Y 9 88 81 (oO 84 87),
 Y 10 89 81 (oM 88),
 U 11 90 89 (oM 7),
 U 12 91 89 (oM 10),
 U 13 92 89 (oB .neq 90 91),
 Y 14 93 81 (oO 89 92),
 I 15 94 (oA 81 93),
 M 16 95 94,
 U 17 96 95 (oM 9),
 U 18 97 95 (oN 1 96),
 U 19 98 95 (oK .neq 97 0),
 I 20 99 (oO 95 98)] false [1,3,4,5,6,7,8,99])
 (.cond (.t 99)
 (.seq (.region 0 [
 I 0 2 (.mv (kB false))] false [2])
 (.ret))
 (.skip)))))
 (.region 0 [
 M 0 71 8,
 I 1 72 (oK .add 71 1),
 M 2 8 72] false [1,3,4,5,6,7,8])))
def g1Y:AC:=.loop [1,3,4,5,6,7,8] g1W
def g1X:AC :=
 (.seq (.seq (.region 0 [
 M 0 155 13,
 M 1 156 6,
 I 2 157 (oN 1 156),
 I 3 158 (oB .lss 155 157)] false [4,6,13,158])
 (.cond (.t 158)
 (.skip)
 (.exit 2)))
 (.seq (.block 3 (.seq (.region 0 [
 M 0 161 6,
 M 1 162 13,
 I 2 163 (oI 1 161 162),
 I 3 164 (oL 163),
 M 4 165 4,
 I 5 166 (oN 1 165),
 I 6 167 (oK .sub 166 1),
 I 7 168 (.call true (.f 29) [.t 164,.k (.sc (.int .i64 0)),.t 167]),
 I 8 169 (oU .not 168),
 M 9 170 169,
 U 10 171 170 (oM 4),
 U 11 172 170 (oM 6),
 U 12 173 170 (oM 13),
 U 13 174 170 (oI 1 172 173),
 U 14 175 170 (oL 174),
 U 15 176 170 (oI 1 171 175),
 U 16 177 170 (oL 176),
 U 17 178 170 (oK .neq 177 9),
 I 18 179 (oO 170 178)] false [4,6,13,179])
 (.cond (.t 179)
 (.seq (.region 0 [
 I 0 2 (.mv (kB false))] false [2])
 (.ret))
 (.skip))))
 (.region 0 [
 M 0 159 13,
 I 1 160 (oK .add 159 1),
 M 2 13 160] false [4,6,13])))
def g1Z:AC:=.loop [4,6,13] g1X
def g1V:Fn:=⟨1,181,[(2,none)],
 (.seq (.region 1 [
 I 0 1 (.box 0 (.t 0)),
 I 1 2 (.mv (kB false))] false [1])
 (.seq (.seq (.region 0 [
 I 0 14 (oS 23 1),
 I 1 15 (o1 251 14),
 I 2 16 (oU .not 15),
 M 3 17 16,
 U 4 18 17 (oF 0 1),
 U 5 19 17 (oF 0 18),
 U 6 20 17 (oL 19),
 U 7 21 17 (oK .eql 20 5),
 I 8 22 (oO 17 21)] false [1,22])
 (.cond (.t 22)
 (.seq (.region 0 [
 I 0 23 (.call true (.f 244) []),
 M 1 2 23] false [2])
 (.ret))
 (.skip)))
 (.seq (.region 1 [
 I 0 24 (oS 23 1),
 I 1 3 (.alloc 0 [.int .i64 0,.int .i64 0,.int .i64 0,.int .i64 0,.int .i64 0,.int .i64 0,.int .i64 0,.int .i64 0,.sl .nil 2 [],.int .i64 0,.sl .nil 3 [],.sl .nil 2 [],.int .i64 0,.int .i64 0,.int .i64 0,.int .i64 0,.int .i64 0,.int .i64 0,.sl .nil 3 [],.sl .nil 2 [],.sl .nil 4 [],.sl .nil 1 [],.sl .nil 3 []]),
 J 2 (.store 23 (.t 3) (.t 24))] false [1,3])
 (.seq (.region 0 [
 I 0 25 (oF 0 3),
 I 1 26 (oF 0 25),
 I 2 27 (oL 26),
 I 3 28 (oK .add 27 1),
 I 4 29 (oF 0 3),
 I 5 30 (oF 0 29),
 J 6 (.store 1 (.t 30) (.t 28))] false [1,3])
 (.seq (.region 0 [
 I 0 31 (oF 0 1),
 I 1 32 (oF 0 31),
 I 2 33 (oL 32),
 I 3 34 (.bin .shl (kI 1) (.t 33)),
 I 4 35 (oF 0 3),
 I 5 36 (oF 2 35),
 J 6 (.store 1 (.t 36) (.t 34)),
 I 7 37 (oF 0 3),
 I 8 38 (oF 3 37),
 J 9 (.store 1 (.t 38) (kI 0)),
 I 10 39 (oF 0 3),
 I 11 40 (oF 8 39),
 J 12 (.store 1 (.t 40) (.k (.sc (.sl .nil 2 [])))),
 I 13 41 (oF 0 3),
 I 14 42 (oF 10 41),
 J 15 (.store 1 (.t 42) (.k (.sc (.sl .nil 3 []))))] false [1,3])
 (.seq (.seq (.region 0 [
 I 0 43 (oF 0 1),
 I 1 44 (oF 1 43),
 I 2 45 (oL 44),
 I 3 46 (oK .gtr 45 1)] false [1,3,46])
 (.cond (.t 46)
 (.region 0 [
 I 0 47 (oF 0 1),
 I 1 48 (oF 0 47),
 I 2 49 (oL 48),
 I 3 50 (oK .sub 49 1),
 I 4 51 (.build [.int .i64 0,.int .i64 0] [(0,1,.t 50),(1,1,.k (.sc (.int .i64 1)))]),
 I 5 52 (.bslice 2 1 [.int .i64 0,.int .i64 0] [(0,.t 51)]),
 I 6 53 (oF 0 3),
 I 7 54 (oF 8 53),
 J 8 (.store 1 (.t 54) (.t 52))] false [1,3])
 (.skip)))
 (.seq (.region 0 [
 I 0 56 (oS 23 3),
 I 1 57 (o1 249 56),
 M 2 55 57,
 I 3 58 (oE 55 0),
 I 4 59 (oE 55 1),
 M 5 4 58,
 M 6 5 59] false [1,3,4,5])
 (.seq (.region 0 [
 I 0 61 (oS 23 3),
 I 1 62 (o1 242 61),
 M 2 60 62,
 I 3 63 (oE 60 0),
 I 4 64 (oE 60 1),
 M 5 6 63,
 M 6 7 64] false [1,3,4,5,6,7])
 (.seq (.seq (.region 0 [
 I 0 8 (.mv (kI 0))] false [1,3,4,5,6,7,8])
 (.block 0 (g1Y)))
 (.seq (.seq (.region 0 [
 M 0 100 7,
 I 1 101 (oK .neq 100 0)] false [1,3,4,5,6,7,101])
 (.cond (.t 101)
 (.seq (.region 0 [
 M 0 102 7,
 I 1 103 (oK .eql 102 102),
 M 2 104 103,
 Y 3 105 104 (oM 5),
 Y 4 106 104 (oM 7),
 Y 5 107 104 (oB .eql 105 106),
 I 6 108 (oA 104 107),
 M 7 109 108,
 Y 8 110 109 (oM 4),
 Y 9 111 109 (oN 1 110),
 Y 10 112 109 (oM 6),
 Y 11 113 109 (oN 1 112),
 Y 12 114 109 (oB .add 111 113),
 Y 13 115 109 (oK .eql 114 0),
 I 14 116 (oA 109 115),
 M 15 117 116,
 Y 16 118 117 (.call true (.f 244) []),
 I 17 119 (oA 117 118),
 M 18 2 119] false [2])
 (.ret))
 (.skip)))
 (.seq (.seq (.region 0 [
 M 0 120 5,
 I 1 121 (oK .neq 120 0)] false [1,3,4,5,6,121])
 (.cond (.t 121)
 (.seq (.region 0 [
 M 0 122 5,
 I 1 123 (oK .eql 122 4),
 M 2 124 123,
 Y 3 125 124 (oM 6),
 Y 4 126 124 (oN 1 125),
 Y 5 127 124 (oF 22 1),
 Y 6 128 124 (oL 127),
 Y 7 129 124 (oN 1 128),
 Y 8 130 124 (oB .eql 126 129),
 I 9 131 (oA 124 130),
 M 10 132 131,
 Y 11 133 132 (.call true (.f 244) []),
 I 12 134 (oA 132 133),
 M 13 2 134] false [2])
 (.ret))
 (.skip)))
 (.seq (.region 0 [
 I 0 136 (oS 23 3),
 M 1 137 4,
 I 2 138 (o2 247 136 137),
 M 3 135 138,
 I 4 139 (oE 135 0),
 I 5 140 (oE 135 1),
 M 6 11 139,
 M 7 12 140] false [1,4,6,11,12])
 (.seq (.seq (.region 0 [
 M 0 141 12,
 I 1 142 (oK .neq 141 0),
 M 2 143 142,
 U 3 144 143 (oM 11),
 U 4 145 143 (oK .neq 144 0),
 I 5 146 (oO 143 145),
 M 6 147 146,
 U 7 148 147 (oM 4),
 U 8 149 147 (oN 1 148),
 U 9 150 147 (oF 22 1),
 U 10 151 147 (oL 150),
 U 11 152 147 (oN 1 151),
 U 12 153 147 (oB .neq 149 152),
 I 13 154 (oO 147 153)] false [4,6,154])
 (.cond (.t 154)
 (.seq (.region 0 [
 I 0 2 (.mv (kB false))] false [2])
 (.ret))
 (.skip)))
 (.seq (.seq (.region 0 [
 I 0 13 (.mv (kI 0))] false [4,6,13])
 (.block 2 (g1Z)))
 (.seq (.region 0 [
 I 0 180 (.call true (.f 244) []),
 M 1 2 180] false [2])
 (.ret)))))))))))))))),false⟩
def e5D:Fn:=⟨1,30,[(2,none),(3,none)],
 (.seq (.region 1 [
 I 0 1 (.box 0 (.t 0)),
 I 1 2 (.mv (kB false)),
 I 2 3 (.mv (kI 0))] false [1])
 (.seq (.seq (.region 0 [
 I 0 9 (oS 23 1),
 I 1 10 (o1 236 9),
 M 2 4 10] false [1,4])
 (.seq (.region 0 [
 M 0 11 4,
 I 1 12 (oK .neq 11 0)] false [1,4,12])
 (.cond (.t 12)
 (.seq (.region 0 [
 M 0 13 4,
 I 1 2 (.mv (kB false)),
 M 2 3 13] false [2,3])
 (.ret))
 (.skip))))
 (.seq (.region 0 [
 I 0 15 (oF 0 1),
 I 1 16 (oS 11 15),
 I 2 17 (o1 265 16),
 M 3 14 17,
 I 4 18 (oE 14 0),
 I 5 19 (oE 14 1),
 M 6 5 18,
 M 7 6 19] false [1,5])
 (.seq (.region 0 [
 I 0 21 (oF 11 1),
 I 1 22 (oS 10 21),
 I 2 23 (o1 209 22),
 M 3 20 23,
 I 4 24 (oE 20 0),
 I 5 25 (oE 20 1),
 M 6 7 24,
 M 7 8 25] false [5,7])
 (.seq (.region 0 [
 M 0 26 5,
 M 1 27 26,
 Y 2 28 27 (oM 7),
 I 3 29 (oA 27 28),
 M 4 2 29,
 I 5 3 (.mv (kI 0))] false [2,3])
 (.ret)))))),false⟩
def e4I:AC :=
 (.seq (.region 0 [
 I 0 48 (oB .lss 47 46)] false [1,3,45,46,47,48])
 (.seq (.cond (.t 48)
 (.skip)
 (.exit 0))
 (.seq (.block 1 (.seq (.region 0 [
 M 0 49 47,
 I 1 50 (oI 1 45 47),
 I 2 51 (oL 50),
 M 3 4 49,
 M 4 5 51] false [1,3,4,5,45,46,47])
 (.region 0 [
 M 0 52 3,
 M 1 53 52,
 Y 2 54 53 (oM 5),
 Y 3 55 53 (oF 0 1),
 Y 4 56 53 (oF 0 55),
 Y 5 57 53 (oL 56),
 Y 6 58 53 (oK .sub 57 1),
 Y 7 59 53 (.call true (.f 268) [.t 54,.k (.sc (.int .i64 0)),.t 58]),
 I 8 60 (oA 53 59),
 M 9 61 60,
 Y 10 62 61 (oF 21 1),
 Y 11 63 61 (oL 62),
 Y 12 64 61 (oM 4),
 Y 13 65 61 (.slice 1 (.t 63) none (some (.t 64)) none),
 Y 14 66 61 (oM 5),
 Y 15 67 61 (o2 76 65 66),
 Y 16 68 61 (oU .not 67),
 I 17 69 (oA 61 68),
 M 18 3 69] false [1,3,45,46,47])))
 (.region 0 [
 I 0 70 (oK .add 47 1),
 M 1 47 70] false [1,3,45,46,47]))))
def e7w:AC:=.loop [1,3,45,46,47] e4I
def e4F:AC :=
 (.seq (.region 0 [
 I 0 75 (oB .lss 74 73)] false [1,3,72,73,74,75])
 (.seq (.cond (.t 75)
 (.skip)
 (.exit 2))
 (.seq (.block 3 (.seq (.region 1 [
 I 0 76 (oI 3 72 74),
 I 1 77 (oS 3 76),
 I 2 7 (.alloc 0 [.int .i64 0,.int .i64 0,.int .i64 0]),
 J 3 (.store 3 (.t 7) (.t 77))] false [1,3,7,72,73,74])
 (.region 0 [
 M 0 78 3,
 M 1 79 78,
 Y 2 80 79 (oS 23 1),
 Y 3 81 79 (oF 0 7),
 Y 4 82 79 (oL 81),
 Y 5 83 79 (o2 269 80 82),
 I 6 84 (oA 79 83),
 M 7 85 84,
 Y 8 86 85 (oS 23 1),
 Y 9 87 85 (oF 1 7),
 Y 10 88 85 (oL 87),
 Y 11 89 85 (o2 269 86 88),
 I 12 90 (oA 85 89),
 M 13 91 90,
 Y 14 92 91 (oF 0 7),
 Y 15 93 91 (oL 92),
 Y 16 94 91 (oF 1 7),
 Y 17 95 91 (oL 94),
 Y 18 96 91 (oB .leq 93 95),
 I 19 97 (oA 91 96),
 M 20 98 97,
 Y 21 99 98 (oF 2 7),
 Y 22 100 98 (oL 99),
 Y 23 101 98 (.call true (.f 268) [.t 100,.k (.sc (.int .i64 0)),.k (.sc (.int .i64 3))]),
 I 24 102 (oA 98 101),
 M 25 3 102] false [1,3,72,73,74])))
 (.region 0 [
 I 0 103 (oK .add 74 1),
 M 1 74 103] false [1,3,72,73,74]))))
def e8a:AC:=.loop [1,3,72,73,74] e4F
def e4E:Fn:=⟨1,106,[(2,none)],
 (.seq (.region 1 [
 I 0 1 (.box 0 (.t 0)),
 I 1 2 (.mv (kI 0))] false [1])
 (.seq (.region 0 [
 I 0 8 (oF 0 1),
 I 1 9 (oS 11 8),
 I 2 10 (o1 267 9),
 I 3 11 (oK .eql 10 0),
 M 4 12 11,
 Y 5 13 12 (oF 11 1),
 Y 6 14 12 (oS 10 13),
 Y 7 15 12 (o1 117 14),
 Y 8 16 12 (oK .eql 15 0),
 I 9 17 (oA 12 16),
 M 10 18 17,
 Y 11 19 18 (oF 11 1),
 Y 12 20 18 (oF 7 19),
 Y 13 21 18 (oL 20),
 Y 14 22 18 (oN 1 21),
 Y 15 23 18 (oF 0 1),
 Y 16 24 18 (oF 1 23),
 Y 17 25 18 (oL 24),
 Y 18 26 18 (oB .leq 22 25),
 I 19 27 (oA 18 26),
 M 20 28 27,
 Y 21 29 28 (oF 21 1),
 Y 22 30 28 (oL 29),
 Y 23 31 28 (oN 1 30),
 Y 24 32 28 (oF 11 1),
 Y 25 33 28 (oF 0 32),
 Y 26 34 28 (oL 33),
 Y 27 35 28 (oN 1 34),
 Y 28 36 28 (oB .eql 31 35),
 I 29 37 (oA 28 36),
 M 30 38 37,
 Y 31 39 38 (oF 22 1),
 Y 32 40 38 (oL 39),
 Y 33 41 38 (oN 1 40),
 Y 34 42 38 (oK .leq 41 3),
 I 35 43 (oA 38 42),
 M 36 3 43] false [1,3])
 (.seq (.seq (.region 0 [
 I 0 44 (oF 21 1),
 I 1 45 (oL 44),
 I 2 46 (oN 1 45),
 I 3 47 (.mv (kI 0))] false [1,3,45,46,47])
 (.block 0 (e7w)))
 (.seq (.seq (.region 0 [
 I 0 71 (oF 22 1),
 I 1 72 (oL 71),
 I 2 73 (oN 1 72),
 I 3 74 (.mv (kI 0))] false [1,3,72,73,74])
 (.block 2 (e8a)))
 (.seq (.seq (.region 0 [
 M 0 104 3,
 I 1 105 (oU .not 104)] false [105])
 (.cond (.t 105)
 (.seq (.region 0 [
 I 0 2 (.mv (kI 100))] false [2])
 (.ret))
 (.skip)))
 (.seq (.region 0 [
 I 0 2 (.mv (kI 0))] false [2])
 (.ret))))))),false⟩
def e5L:Fn:=⟨2,22,[(4,none),(5,none)],
 (.seq (.region 1 [
 I 0 2 (.box 0 (.t 0)),
 I 1 4 (.mv (.k (.sc (.sl .nil 1 [])))),
 I 2 5 (.mv (kI 0))] false [1,2])
 (.seq (.region 1 [
 I 0 9 (oS 23 2),
 I 1 10 (oS 23 2),
 M 2 11 1,
 I 3 12 (o2 269 10 11),
 I 4 13 (o2 272 9 12),
 M 5 8 13,
 I 6 14 (oE 8 0),
 I 7 15 (oE 8 1),
 ⟨8,some 6,.alloc 0 [.int .i64 0,.int .i64 0,.int .i64 0,.int .i64 0,.int .i64 0,.int .i64 0,.int .i64 0,.int .i64 0,.sl .nil 2 [],.int .i64 0,.sl .nil 3 [],.sl .nil 2 [],.int .i64 0,.int .i64 0,.int .i64 0,.int .i64 0,.int .i64 0,.int .i64 0,.sl .nil 3 [],.sl .nil 2 [],.sl .nil 4 [],.sl .nil 1 [],.sl .nil 3 [],.imap true false []],none,[0,1]⟩,
 J 9 (.store 24 (.t 6) (.t 14)),
 M 10 7 15] true [1,6,7])
 (.seq (.seq (.region 0 [
 M 0 16 7,
 I 1 17 (oK .neq 16 0)] false [1,6,7,17])
 (.cond (.t 17)
 (.seq (.region 0 [
 M 0 18 7,
 I 1 4 (.mv (.k (.sc (.sl .nil 1 [])))),
 M 2 5 18] false [4,5])
 (.ret))
 (.skip)))
 (.seq (.region 0 [
 I 0 19 (oS 24 6),
 M 1 20 1,
 I 2 21 (o2 273 19 20),
 M 3 4 21,
 I 4 5 (.mv (kI 0))] false [4,5])
 (.ret))))),false⟩
def e5B:Fn:=⟨2,22,[(4,none),(5,none)],
 (.seq (.region 1 [
 I 0 2 (.box 0 (.t 0)),
 I 1 4 (.mv (.k (.sc (.sl .nil 1 [])))),
 I 2 5 (.mv (kI 0))] false [1,2])
 (.seq (.region 1 [
 I 0 9 (oS 23 2),
 I 1 10 (oS 23 2),
 M 2 11 1,
 I 3 12 (o2 276 10 11),
 I 4 13 (o2 272 9 12),
 M 5 8 13,
 I 6 14 (oE 8 0),
 I 7 15 (oE 8 1),
 ⟨8,some 6,.alloc 0 [.int .i64 0,.int .i64 0,.int .i64 0,.int .i64 0,.int .i64 0,.int .i64 0,.int .i64 0,.int .i64 0,.sl .nil 2 [],.int .i64 0,.sl .nil 3 [],.sl .nil 2 [],.int .i64 0,.int .i64 0,.int .i64 0,.int .i64 0,.int .i64 0,.int .i64 0,.sl .nil 3 [],.sl .nil 2 [],.sl .nil 4 [],.sl .nil 1 [],.sl .nil 3 [],.imap true false []],none,[0,1]⟩,
 J 9 (.store 24 (.t 6) (.t 14)),
 M 10 7 15] true [1,6,7])
 (.seq (.seq (.region 0 [
 M 0 16 7,
 I 1 17 (oK .neq 16 0)] false [1,6,7,17])
 (.cond (.t 17)
 (.seq (.region 0 [
 M 0 18 7,
 I 1 4 (.mv (.k (.sc (.sl .nil 1 [])))),
 M 2 5 18] false [4,5])
 (.ret))
 (.skip)))
 (.seq (.region 0 [
 I 0 19 (oS 24 6),
 M 1 20 1,
 I 2 21 (o2 277 19 20),
 M 3 4 21,
 I 4 5 (.mv (kI 0))] false [4,5])
 (.ret))))),false⟩
def e5g:AC :=
 (.seq (.region 0 [
 I 0 20 (oB .lss 19 18)] false [4,6,18,19,20])
 (.seq (.cond (.t 20)
 (.skip)
 (.exit 0))
 (.seq (.block 1 (.seq (.region 0 [
 M 0 21 19,
 M 1 7 21] false [4,6,7,18,19])
 (.seq (.region 0 [
 I 0 22 (oS 24 4),
 M 1 23 7,
 I 2 24 (o2 277 22 23),
 I 3 25 (oN 1 24),
 I 4 26 (oK .eql 25 0)] false [4,6,7,18,19,26])
 (.cond (.t 26)
 (.region 0 [
 I 0 27 (.mv (.tk 6)),
 M 1 28 7,
 I 2 29 (.bslice 1 1 [.int .i64 0] [(0,.t 28)]),
 I 3 30 (.append 1 (.tk 27) (.t 29)),
 I 4 6 (.mv (.tk 30))] false [4,6,18,19])
 (.skip)))))
 (.region 0 [
 I 0 31 (oK .add 19 1),
 M 1 19 31] false [4,6,18,19]))))
def e8b:AC:=.loop [4,6,18,19] e5g
def e5C:Fn:=⟨1,38,[(2,none),(3,none)],
 (.seq (.region 1 [
 I 0 1 (.box 0 (.t 0)),
 I 1 2 (.mv (.k (.sc (.sl .nil 1 [])))),
 I 2 3 (.mv (kI 0))] false [1])
 (.seq (.region 1 [
 I 0 9 (oS 23 1),
 I 1 10 (.call true (.f 272) [.t 9,.k (.sc (.bool true))]),
 M 2 8 10,
 I 3 11 (oE 8 0),
 I 4 12 (oE 8 1),
 I 5 4 (.alloc 0 [.int .i64 0,.int .i64 0,.int .i64 0,.int .i64 0,.int .i64 0,.int .i64 0,.int .i64 0,.int .i64 0,.sl .nil 2 [],.int .i64 0,.sl .nil 3 [],.sl .nil 2 [],.int .i64 0,.int .i64 0,.int .i64 0,.int .i64 0,.int .i64 0,.int .i64 0,.sl .nil 3 [],.sl .nil 2 [],.sl .nil 4 [],.sl .nil 1 [],.sl .nil 3 [],.imap true false []]),
 J 6 (.store 24 (.t 4) (.t 11)),
 M 7 5 12] false [1,4,5])
 (.seq (.seq (.region 0 [
 M 0 13 5,
 I 1 14 (oK .neq 13 0)] false [1,4,5,14])
 (.cond (.t 14)
 (.seq (.region 0 [
 M 0 15 5,
 I 1 2 (.mv (.k (.sc (.sl .nil 1 [])))),
 M 2 3 15] false [2,3])
 (.ret))
 (.skip)))
 (.seq (.region 0 [
 I 0 6 (.mv (.k (.sc (.sl .nil 1 []))))] false [1,4,6])
 (.seq (.seq (.region 0 [
 I 0 16 (oF 22 1),
 I 1 17 (oL 16),
 I 2 18 (oN 1 17),
 I 3 19 (.mv (kI 0))] false [4,6,18,19])
 (.block 0 (e8b)))
 (.seq (.region 0 [
 M 0 32 6,
 M 1 33 6,
 I 2 34 (oN 1 33),
 M 3 35 6,
 I 4 36 (oN 1 35),
 I 5 37 (.slice 1 (.t 32) none (some (.t 34)) (some (.t 36))),
 M 6 2 37,
 I 7 3 (.mv (kI 0))] false [2,3])
 (.ret))))))),false⟩
def e6m:Fn:=⟨0,123,[(0,none)],
 (.seq (.region 0 [
 I 0 0 (.mv (kB false))] false [])
 (.seq (.region 0 [
 I 0 15 (.call true (.f 259) []),
 I 1 16 (.call true (.f 238) [.t 15,.k (.sc (.int .i64 1))]),
 M 2 14 16,
 I 3 17 (oE 14 0),
 I 4 18 (oE 14 1),
 M 5 1 17,
 M 6 2 18] false [1,2])
 (.seq (.region 0 [
 I 0 20 (.call true (.f 259) []),
 I 1 21 (.bslice 1 2 [.int .i64 0] [(0,.k (.sc (.int .i64 0))),(1,.k (.sc (.int .i64 1)))]),
 I 2 22 (o2 245 20 21),
 M 3 19 22,
 I 4 23 (oE 19 0),
 I 5 24 (oE 19 1),
 M 6 3 23,
 M 7 4 24] false [1,2,3,4])
 (.seq (.region 0 [
 I 0 26 (.call true (.f 264) []),
 I 1 27 (.bslice 1 2 [.int .i64 0] [(0,.k (.sc (.int .i64 0))),(1,.k (.sc (.int .i64 2)))]),
 I 2 28 (o2 247 26 27),
 M 3 25 28,
 I 4 29 (oE 25 0),
 I 5 30 (oE 25 1),
 M 6 5 29,
 M 7 6 30] false [1,2,3,4,5,6])
 (.seq (.region 0 [
 I 0 32 (.call true (.f 280) []),
 I 1 33 (.call true (.f 240) [.t 32,.k (.sc (.int .i64 0))]),
 M 2 31 33,
 I 3 34 (oE 31 0),
 I 4 35 (oE 31 1),
 M 5 7 34,
 M 6 8 35] false [1,2,3,4,5,6,7,8])
 (.seq (.region 0 [
 I 0 37 (.call true (.f 281) []),
 I 1 38 (o1 249 37),
 M 2 36 38,
 I 3 39 (oE 36 0),
 I 4 40 (oE 36 1),
 M 5 9 39,
 M 6 10 40] false [1,2,3,4,5,6,7,8,9,10])
 (.seq (.seq (.region 0 [
 M 0 41 2,
 I 1 42 (oK .neq 41 0),
 M 2 43 42,
 U 3 44 43 (oM 4),
 U 4 45 43 (oK .neq 44 0),
 I 5 46 (oO 43 45),
 M 6 47 46,
 U 7 48 47 (oM 6),
 U 8 49 47 (oK .neq 48 0),
 I 9 50 (oO 47 49),
 M 10 51 50,
 U 11 52 51 (oM 8),
 U 12 53 51 (oK .neq 52 0),
 I 13 54 (oO 51 53),
 M 14 55 54,
 U 15 56 55 (oM 10),
 U 16 57 55 (oK .neq 56 0),
 I 17 58 (oO 55 57),
 M 18 59 58,
 U 19 60 59 (oM 1),
 U 20 61 59 (.bslice 1 2 [.int .i64 0] [(0,.k (.sc (.int .i64 0))),(1,.k (.sc (.int .i64 1)))]),
 U 21 62 59 (o2 23 60 61),
 U 22 63 59 (oU .not 62),
 I 23 64 (oO 59 63),
 M 24 65 64,
 U 25 66 65 (oM 3),
 U 26 67 65 (oU .not 66),
 I 27 68 (oO 65 67),
 M 28 69 68,
 U 29 70 69 (oM 5),
 U 30 71 69 (oK .neq 70 3),
 I 31 72 (oO 69 71),
 M 32 73 72,
 U 33 74 73 (oM 7),
 U 34 75 73 (.bslice 1 1 [.int .i64 0] [(0,.k (.sc (.int .i64 0)))]),
 U 35 76 73 (o2 23 74 75),
 U 36 77 73 (oU .not 76),
 I 37 78 (oO 73 77),
 M 38 79 78,
 U 39 80 79 (oM 9),
 U 40 81 79 (.bslice 1 2 [.int .i64 0] [(0,.k (.sc (.int .i64 0))),(1,.k (.sc (.int .i64 9)))]),
 U 41 82 79 (o2 23 80 81),
 U 42 83 79 (oU .not 82),
 I 43 84 (oO 79 83)] false [84])
 (.cond (.t 84)
 (.seq (.region 0 [
 I 0 0 (.mv (kB false))] false [0])
 (.ret))
 (.skip)))
 (.seq (.region 0 [
 I 0 86 (.call true (.f 264) []),
 I 1 87 (o1 249 86),
 M 2 85 87,
 I 3 88 (oE 85 0),
 I 4 89 (oE 85 1),
 M 5 11 88,
 M 6 2 89] false [2,11])
 (.seq (.region 0 [
 I 0 91 (.call true (.f 281) []),
 I 1 92 (o1 242 91),
 M 2 90 92,
 I 3 93 (oE 90 0),
 I 4 94 (oE 90 1),
 M 5 12 93,
 M 6 4 94] false [2,4,11,12])
 (.seq (.region 0 [
 I 0 96 (.call true (.f 259) []),
 I 1 97 (o1 234 96),
 M 2 95 97,
 I 3 98 (oE 95 0),
 I 4 99 (oE 95 1),
 M 5 13 98,
 M 6 6 99] false [2,4,6,11,12,13])
 (.seq (.region 0 [
 M 0 100 2,
 I 1 101 (oK .eql 100 0),
 M 2 102 101,
 Y 3 103 102 (oM 4),
 Y 4 104 102 (oK .eql 103 0),
 I 5 105 (oA 102 104),
 M 6 106 105,
 Y 7 107 106 (oM 6),
 Y 8 108 106 (oK .eql 107 0),
 I 9 109 (oA 106 108),
 M 10 110 109,
 Y 11 111 110 (oM 11),
 Y 12 112 110 (.bslice 1 2 [.int .i64 0] [(0,.k (.sc (.int .i64 0))),(1,.k (.sc (.int .i64 1)))]),
 Y 13 113 110 (o2 23 111 112),
 I 14 114 (oA 110 113),
 M 15 115 114,
 Y 16 116 115 (oM 12),
 Y 17 117 115 (.bslice 1 1 [.int .i64 0] [(0,.k (.sc (.int .i64 1)))]),
 Y 18 118 115 (o2 23 116 117),
 I 19 119 (oA 115 118),
 M 20 120 119,
 Y 21 121 120 (oM 13),
 I 22 122 (oA 120 121),
 M 23 0 122] false [0])
 (.ret)))))))))))),false⟩
def e5u:Fn:=⟨2,30,[(4,none),(5,none)],
 (.seq (.region 1 [
 I 0 2 (.box 0 (.t 0)),
 I 1 4 (.mv (kB false)),
 I 2 5 (.mv (kI 0))] false [1,2])
 (.seq (.region 1 [
 I 0 11 (oS 23 2),
 I 1 12 (.call true (.f 272) [.t 11,.k (.sc (.bool true))]),
 M 2 10 12,
 I 3 13 (oE 10 0),
 I 4 14 (oE 10 1),
 I 5 6 (.alloc 0 [.int .i64 0,.int .i64 0,.int .i64 0,.int .i64 0,.int .i64 0,.int .i64 0,.int .i64 0,.int .i64 0,.sl .nil 2 [],.int .i64 0,.sl .nil 3 [],.sl .nil 2 [],.int .i64 0,.int .i64 0,.int .i64 0,.int .i64 0,.int .i64 0,.int .i64 0,.sl .nil 3 [],.sl .nil 2 [],.sl .nil 4 [],.sl .nil 1 [],.sl .nil 3 [],.imap true false []]),
 J 6 (.store 24 (.t 6) (.t 13)),
 M 7 7 14] false [1,6,7])
 (.seq (.seq (.region 0 [
 M 0 15 7,
 I 1 16 (oK .neq 15 0)] false [1,6,7,16])
 (.cond (.t 16)
 (.seq (.region 0 [
 M 0 17 7,
 I 1 4 (.mv (kB false)),
 M 2 5 17] false [4,5])
 (.ret))
 (.skip)))
 (.seq (.region 1 [
 I 0 19 (oS 24 6),
 M 1 20 1,
 I 2 21 (o2 282 19 20),
 M 3 18 21,
 I 4 22 (oE 18 0),
 I 5 23 (oE 18 1),
 I 6 8 (.alloc 0 [.int .i64 0,.int .i64 0,.int .i64 0]),
 J 7 (.store 3 (.t 8) (.t 22)),
 M 8 9 23] false [6,8,9])
 (.seq (.region 0 [
 M 0 24 9,
 M 1 25 24,
 Y 2 26 25 (oS 24 6),
 Y 3 27 25 (oS 3 8),
 Y 4 28 25 (o2 283 26 27),
 I 5 29 (oA 25 28),
 M 6 4 29,
 I 7 5 (.mv (kI 0))] false [4,5])
 (.ret)))))),false⟩
def e5b:Fn:=⟨2,38,[(4,none),(5,none)],
 (.seq (.region 1 [
 I 0 2 (.box 0 (.t 0)),
 I 1 4 (.mv (kI 0)),
 I 2 5 (.mv (kI 0))] false [1,2])
 (.seq (.region 1 [
 I 0 11 (oS 23 2),
 I 1 12 (.call true (.f 272) [.t 11,.k (.sc (.bool true))]),
 M 2 10 12,
 I 3 13 (oE 10 0),
 I 4 14 (oE 10 1),
 I 5 6 (.alloc 0 [.int .i64 0,.int .i64 0,.int .i64 0,.int .i64 0,.int .i64 0,.int .i64 0,.int .i64 0,.int .i64 0,.sl .nil 2 [],.int .i64 0,.sl .nil 3 [],.sl .nil 2 [],.int .i64 0,.int .i64 0,.int .i64 0,.int .i64 0,.int .i64 0,.int .i64 0,.sl .nil 3 [],.sl .nil 2 [],.sl .nil 4 [],.sl .nil 1 [],.sl .nil 3 [],.imap true false []]),
 J 6 (.store 24 (.t 6) (.t 13)),
 M 7 7 14] false [1,6,7])
 (.seq (.seq (.region 0 [
 M 0 15 7,
 I 1 16 (oK .neq 15 0)] false [1,6,7,16])
 (.cond (.t 16)
 (.seq (.region 0 [
 M 0 17 7,
 I 1 4 (.mv (kI 0)),
 M 2 5 17] false [4,5])
 (.ret))
 (.skip)))
 (.seq (.region 1 [
 I 0 19 (oS 24 6),
 M 1 20 1,
 I 2 21 (o2 282 19 20),
 M 3 18 21,
 I 4 22 (oE 18 0),
 I 5 23 (oE 18 1),
 I 6 8 (.alloc 0 [.int .i64 0,.int .i64 0,.int .i64 0]),
 J 7 (.store 3 (.t 8) (.t 22)),
 M 8 9 23] false [6,8,9])
 (.seq (.seq (.region 0 [
 M 0 24 9,
 I 1 25 (oU .not 24),
 M 2 26 25,
 U 3 27 26 (oS 24 6),
 U 4 28 26 (oS 3 8),
 U 5 29 26 (o2 283 27 28),
 U 6 30 26 (oU .not 29),
 I 7 31 (oO 26 30)] false [6,8,31])
 (.cond (.t 31)
 (.seq (.region 0 [
 I 0 4 (.mv (kI 0)),
 I 1 5 (.mv (kI 101))] false [4,5])
 (.ret))
 (.skip)))
 (.seq (.region 0 [
 I 0 32 (.iarr 2 1 (.g 5) (kI 1)),
 I 1 33 (oL 32),
 I 2 34 (oS 3 8),
 I 3 35 (oS 24 6),
 I 4 36 (.build [.int .i64 0,.int .i64 0,.int .i64 0,.int .i64 0,.int .i64 0,.int .i64 0,.int .i64 0,.int .i64 0,.int .i64 0,.int .i64 0,.int .i64 0,.sl .nil 2 [],.int .i64 0,.sl .nil 3 [],.sl .nil 2 [],.int .i64 0,.int .i64 0,.int .i64 0,.int .i64 0,.int .i64 0,.int .i64 0,.sl .nil 3 [],.sl .nil 2 [],.sl .nil 4 [],.sl .nil 1 [],.sl .nil 3 [],.imap true false []] [(0,3,.t 34),(3,24,.t 35)]),
 I 5 37 (.call true (.t 33) [.t 36]),
 M 6 4 37,
 I 7 5 (.mv (kI 0))] false [4,5])
 (.ret))))))),false⟩
def e6y:AC :=
 (.region 1 [
 I 0 9 (.alloc 0 [.int .i64 0,.int .i64 0,.int .i64 0,.int .i64 0,.int .i64 0,.int .i64 0,.int .i64 0,.int .i64 0,.int .i64 0,.int .i64 0,.int .i64 0,.sl .nil 2 [],.int .i64 0,.sl .nil 3 [],.sl .nil 2 [],.int .i64 0,.int .i64 0,.int .i64 0,.int .i64 0,.int .i64 0,.int .i64 0,.sl .nil 3 [],.sl .nil 2 [],.sl .nil 4 [],.sl .nil 1 [],.sl .nil 3 [],.imap true false []]),
 J 1 (.store 27 (.t 9) (.t 22))] false [6,7,8,9])
def e6z:AC :=
 (.block 1 (.seq (.region 0 [
 I 0 23 (oL 7),
 I 1 24 (oU .not 23),
 M 2 25 24,
 U 3 26 25 (oF 0 8),
 U 4 27 25 (oL 26),
 U 5 28 25 (oS 27 9),
 U 6 29 25 (oS 27 6),
 U 7 30 25 (.call true (.t 27) [.t 28,.t 29]),
 I 8 31 (oO 25 30)] false [6,7,9,31])
 (.cond (.t 31)
 (.region 0 [
 I 0 32 (oS 27 9),
 J 1 (.store 27 (.t 6) (.t 32)),
 J 2 (.store 1 (.t 7) (kB true))] false [])
 (.skip))))
def e5p:Fn:=⟨1,42,[(2,none),(3,none)],
 (.seq (.region 1 [
 I 0 1 (.box 0 (.t 0)),
 I 1 2 (.mv (.k (.sc (.sl .nil 1 [])))),
 I 2 3 (.mv (kI 0))] false [1])
 (.seq (.region 1 [
 I 0 12 (oS 23 1),
 I 1 13 (.call true (.f 272) [.t 12,.k (.sc (.bool true))]),
 M 2 11 13,
 I 3 14 (oE 11 0),
 I 4 15 (oE 11 1),
 I 5 4 (.alloc 0 [.int .i64 0,.int .i64 0,.int .i64 0,.int .i64 0,.int .i64 0,.int .i64 0,.int .i64 0,.int .i64 0,.sl .nil 2 [],.int .i64 0,.sl .nil 3 [],.sl .nil 2 [],.int .i64 0,.int .i64 0,.int .i64 0,.int .i64 0,.int .i64 0,.int .i64 0,.sl .nil 3 [],.sl .nil 2 [],.sl .nil 4 [],.sl .nil 1 [],.sl .nil 3 [],.imap true false []]),
 J 6 (.store 24 (.t 4) (.t 14)),
 M 7 5 15] false [1,4,5])
 (.seq (.seq (.region 0 [
 M 0 16 5,
 I 1 17 (oK .neq 16 0)] false [1,4,5,17])
 (.cond (.t 17)
 (.seq (.region 0 [
 M 0 18 5,
 I 1 2 (.mv (.k (.sc (.sl .nil 1 [])))),
 M 2 3 18] false [2,3])
 (.ret))
 (.skip)))
 (.seq (.region 1 [
 I 0 6 (.alloc 0 [.int .i64 0,.int .i64 0,.int .i64 0,.int .i64 0,.int .i64 0,.int .i64 0,.int .i64 0,.int .i64 0,.int .i64 0,.int .i64 0,.int .i64 0,.sl .nil 2 [],.int .i64 0,.sl .nil 3 [],.sl .nil 2 [],.int .i64 0,.int .i64 0,.int .i64 0,.int .i64 0,.int .i64 0,.int .i64 0,.sl .nil 3 [],.sl .nil 2 [],.sl .nil 4 [],.sl .nil 1 [],.sl .nil 3 [],.imap true false []])] false [1,4,6])
 (.seq (.region 2 [
 I 0 19 (.call true (.f 286) []),
 I 1 7 (.alloc 0 [.bool false]),
 I 2 8 (.alloc 1 [.nilf]),
 J 3 (.store 1 (.t 7) (kB false)),
 J 4 (.store 1 (.t 8) (.t 19))] false [1,4,6,7,8])
 (.seq (.seq (.region 0 [
 I 0 20 (oS 24 4),
 I 1 21 (o1 287 20)] false [1,6,7,8,21])
 (.block 0 (.rfunc (.t 21) [22] e6y e6z)))
 (.seq (.seq (.region 0 [
 I 0 33 (oL 7),
 I 1 34 (oU .not 33)] false [1,6,34])
 (.cond (.t 34)
 (.seq (.region 0 [
 I 0 2 (.mv (.k (.sc (.sl .nil 1 [])))),
 I 1 3 (.mv (kI 4))] false [2,3])
 (.ret))
 (.skip)))
 (.seq (.region 0 [
 I 0 35 (oF 22 1),
 I 1 36 (oL 35),
 I 2 37 (oN 1 36),
 M 3 10 37] false [6,10])
 (.seq (.region 0 [
 I 0 38 (oF 0 6),
 M 1 39 10,
 M 2 40 10,
 I 3 41 (.slArr 3 1 (.t 38) none (some (.t 39)) (some (.t 40))),
 M 4 2 41,
 I 5 3 (.mv (kI 0))] false [2,3])
 (.ret)))))))))),false⟩
def e5H:AC :=
 (.seq (.seq (.region 0 [
 M 0 88 3,
 M 1 89 88,
 Y 2 90 89 (oM 4),
 Y 3 91 89 (oF 21 1),
 Y 4 92 89 (oL 91),
 Y 5 93 89 (oN 1 92),
 Y 6 94 89 (oB .lss 90 93),
 I 7 95 (oA 89 94)] false [1,3,4,95])
 (.cond (.t 95)
 (.skip)
 (.exit 0)))
 (.seq (.block 1 (.region 0 [
 I 0 98 (oF 21 1),
 I 1 99 (oL 98),
 M 2 100 4,
 I 3 101 (oI 1 99 100),
 I 4 102 (oL 101),
 I 5 103 (oF 0 1),
 I 6 104 (oF 0 103),
 I 7 105 (oL 104),
 I 8 106 (oK .sub 105 1),
 I 9 107 (.call true (.f 29) [.t 102,.k (.sc (.int .i64 0)),.t 106]),
 M 10 3 107] true [1,3,4]))
 (.region 0 [
 M 0 96 4,
 I 1 97 (oK .add 96 1),
 M 2 4 97] false [1,3,4])))
def e6M:AC:=.loop [1,3,4] e5H
def e5I:AC :=
 (.seq (.seq (.region 0 [
 M 0 108 3,
 M 1 109 108,
 Y 2 110 109 (oM 5),
 Y 3 111 109 (oF 22 1),
 Y 4 112 109 (oL 111),
 Y 5 113 109 (oN 1 112),
 Y 6 114 109 (oB .lss 110 113),
 I 7 115 (oA 109 114)] false [1,3,5,115])
 (.cond (.t 115)
 (.skip)
 (.exit 2)))
 (.seq (.block 3 (.seq (.region 1 [
 I 0 118 (oF 22 1),
 I 1 119 (oL 118),
 M 2 120 5,
 I 3 121 (oI 3 119 120),
 I 4 122 (oS 3 121),
 I 5 6 (.alloc 0 [.int .i64 0,.int .i64 0,.int .i64 0]),
 J 6 (.store 3 (.t 6) (.t 122))] false [1,5,6])
 (.region 0 [
 I 0 123 (oF 0 6),
 I 1 124 (oL 123),
 I 2 125 (oF 1 6),
 I 3 126 (oL 125),
 I 4 127 (.call true (.f 29) [.t 124,.k (.sc (.int .i64 0)),.t 126]),
 M 5 128 127,
 Y 6 129 128 (oF 1 6),
 Y 7 130 128 (oL 129),
 Y 8 131 128 (oF 11 1),
 Y 9 132 128 (oF 7 131),
 Y 10 133 128 (oL 132),
 Y 11 134 128 (oN 1 133),
 Y 12 135 128 (oB .lss 130 134),
 I 13 136 (oA 128 135),
 M 14 137 136,
 Y 15 138 137 (oF 2 6),
 Y 16 139 137 (oL 138),
 Y 17 140 137 (.call true (.f 29) [.t 139,.k (.sc (.int .i64 0)),.k (.sc (.int .i64 3))]),
 I 18 141 (oA 137 140),
 M 19 3 141] false [1,3,5])))
 (.region 0 [
 M 0 116 5,
 I 1 117 (oK .add 116 1),
 M 2 5 117] false [1,3,5])))
def e6N:AC:=.loop [1,3,5] e5I
def e6d:Fn:=⟨1,143,[(2,none)],
 (.seq (.region 1 [
 I 0 1 (.box 0 (.t 0)),
 I 1 2 (.mv (kB false))] false [1])
 (.seq (.region 0 [
 I 0 7 (oS 23 1),
 I 1 8 (o1 236 7),
 I 2 9 (oK .eql 8 0),
 M 3 10 9,
 Y 4 11 10 (oF 0 1),
 Y 5 12 10 (oS 11 11),
 Y 6 13 10 (o1 267 12),
 Y 7 14 10 (oK .eql 13 0),
 I 8 15 (oA 10 14),
 M 9 16 15,
 Y 10 17 16 (oF 11 1),
 Y 11 18 16 (oS 10 17),
 Y 12 19 16 (o1 117 18),
 Y 13 20 16 (oK .eql 19 0),
 I 14 21 (oA 16 20),
 M 15 22 21,
 Y 16 23 22 (oF 11 1),
 Y 17 24 22 (oF 0 23),
 Y 18 25 22 (oL 24),
 Y 19 26 22 (oN 1 25),
 Y 20 27 22 (.call true (.f 29) [.t 26,.k (.sc (.int .i64 1)),.k (.sc (.int .i64 3))]),
 I 21 28 (oA 22 27),
 M 22 29 28,
 Y 23 30 29 (oF 21 1),
 Y 24 31 29 (oL 30),
 Y 25 32 29 (oN 1 31),
 Y 26 33 29 (oF 11 1),
 Y 27 34 29 (oF 0 33),
 Y 28 35 29 (oL 34),
 Y 29 36 29 (oN 1 35),
 Y 30 37 29 (oB .eql 32 36),
 I 31 38 (oA 29 37),
 M 32 39 38,
 Y 33 40 39 (oF 11 1),
 Y 34 41 39 (oF 7 40),
 Y 35 42 39 (oL 41),
 Y 36 43 39 (oN 1 42),
 Y 37 44 39 (.call true (.f 29) [.t 43,.k (.sc (.int .i64 1)),.k (.sc (.int .i64 5))]),
 I 38 45 (oA 39 44),
 M 39 46 45,
 Y 40 47 46 (oF 0 1),
 Y 41 48 46 (oF 0 47),
 Y 42 49 46 (oL 48),
 Y 43 50 46 (.call true (.f 29) [.t 49,.k (.sc (.int .i64 1)),.k (.sc (.int .i64 5))]),
 I 44 51 (oA 46 50),
 M 45 52 51,
 Y 46 53 52 (oF 0 1),
 Y 47 54 52 (oF 1 53),
 Y 48 55 52 (oL 54),
 Y 49 56 52 (.call true (.f 29) [.t 55,.k (.sc (.int .i64 1)),.k (.sc (.int .i64 6))]),
 I 50 57 (oA 52 56),
 M 51 58 57,
 Y 52 59 58 (oF 11 1),
 Y 53 60 58 (oF 7 59),
 Y 54 61 58 (oL 60),
 Y 55 62 58 (oN 1 61),
 Y 56 63 58 (oF 0 1),
 Y 57 64 58 (oF 1 63),
 Y 58 65 58 (oL 64),
 Y 59 66 58 (oB .leq 62 65),
 I 60 67 (oA 58 66),
 M 61 68 67,
 Y 62 69 68 (oF 22 1),
 Y 63 70 68 (oL 69),
 Y 64 71 68 (oN 1 70),
 Y 65 72 68 (oK .leq 71 3),
 I 66 73 (oA 68 72),
 M 67 74 73,
 Y 68 75 74 (oF 11 1),
 Y 69 76 74 (oF 8 75),
 Y 70 77 74 (oL 76),
 Y 71 78 74 (oN 1 77),
 Y 72 79 74 (oK .leq 78 6),
 I 73 80 (oA 74 79),
 M 74 81 80,
 Y 75 82 81 (oF 0 1),
 Y 76 83 81 (oF 8 82),
 Y 77 84 81 (oL 83),
 Y 78 85 81 (oN 1 84),
 Y 79 86 81 (oK .leq 85 3),
 I 80 87 (oA 81 86),
 M 81 3 87] false [1,3])
 (.seq (.seq (.region 0 [
 I 0 4 (.mv (kI 0))] false [1,3,4])
 (.block 0 (e6M)))
 (.seq (.seq (.region 0 [
 I 0 5 (.mv (kI 0))] false [1,3,5])
 (.block 2 (e6N)))
 (.seq (.region 0 [
 M 0 142 3,
 M 1 2 142] false [2])
 (.ret)))))),false⟩
def e6U:Fn:=⟨3,25,[(6,none),(7,none)],
 (.seq (.region 3 [
 I 0 3 (.box 0 (.t 0)),
 I 1 4 (.box 1 (.t 1)),
 I 2 5 (.box 2 (.t 2)),
 I 3 6 (.mv (kI 0)),
 I 4 7 (.mv (kI 0))] false [3,4,5])
 (.frz 4 (.frz 5 (.seq (.region 1 [
 I 0 11 (oS 11 3),
 I 1 12 (oS 11 3),
 I 2 13 (oL 4),
 I 3 14 (oL 5),
 I 4 15 (o3 291 12 13 14),
 I 5 16 (o2 292 11 15),
 M 6 10 16,
 I 7 17 (oE 10 0),
 I 8 18 (oE 10 1),
 ⟨9,some 8,.alloc 0 [.int .i64 0,.int .i64 0,.int .i64 0,.int .i64 0,.int .i64 0,.int .i64 0,.int .i64 0,.int .i64 0,.sl .nil 2 [],.int .i64 0,.sl .nil 3 [],.imap true false [],.sl .nil 9 []],none,[0,1,2,3]⟩,
 J 10 (.store 13 (.t 8) (.t 17)),
 M 11 9 18] true [4,5,8,9])
 (.seq (.seq (.region 0 [
 M 0 19 9,
 I 1 20 (oK .neq 19 0)] false [4,5,8,9,20])
 (.cond (.t 20)
 (.seq (.region 0 [
 M 0 21 9,
 I 1 6 (.mv (kI 0)),
 M 2 7 21] false [6,7])
 (.ret))
 (.skip)))
 (.seq (.region 0 [
 I 0 22 (oS 13 8),
 I 1 23 (.mkf 293 [] [] [.t 4,.t 5]),
 I 2 24 (o2 294 22 23),
 M 3 6 24,
 I 4 7 (.mv (kI 0))] false [6,7])
 (.ret))))))),false⟩
def e6s:Fn:=⟨0,4,[(0,some (some 23))],
 (.seq (.region 1 [
 I 0 0 (.alloc 0 [.int .i64 0,.int .i64 0,.int .i64 0,.int .i64 0,.int .i64 0,.int .i64 0,.int .i64 0,.int .i64 0,.sl .nil 2 [],.int .i64 0,.sl .nil 3 [],.sl .nil 2 [],.int .i64 0,.int .i64 0,.int .i64 0,.int .i64 0,.int .i64 0,.int .i64 0,.sl .nil 3 [],.sl .nil 2 [],.sl .nil 4 [],.sl .nil 1 [],.sl .nil 3 []])] false [0])
 (.seq (.region 0 [
 I 0 1 (.call true (.f 260) [.k (.sc (.int .i64 1))]),
 I 1 2 (.call true (.f 261) [.k (.sc (.int .i64 1))]),
 I 2 3 (.call true (.f 262) [.k (.sc (.sl .nil 3 [])),.t 1,.t 2]),
 J 3 (.store 23 (.t 0) (.t 3))] false [0])
 (.ret))),false⟩
def e6j:Fn:=⟨3,28,[(6,some (some 23))],
 (.seq (.region 3 [
 I 0 4 (.box 0 (.t 1)),
 I 1 5 (.box 1 (.t 2)),
 I 2 6 (.alloc 2 [.int .i64 0,.int .i64 0,.int .i64 0,.int .i64 0,.int .i64 0,.int .i64 0,.int .i64 0,.int .i64 0,.sl .nil 2 [],.int .i64 0,.sl .nil 3 [],.sl .nil 2 [],.int .i64 0,.int .i64 0,.int .i64 0,.int .i64 0,.int .i64 0,.int .i64 0,.sl .nil 3 [],.sl .nil 2 [],.sl .nil 4 [],.sl .nil 1 [],.sl .nil 3 []])] false [0,4,5,6])
 (.seq (.region 0 [
 M 0 7 0,
 I 1 8 (o1 295 7),
 I 2 9 (.call true (.f 30) [.k (.sc (.int .i64 10))]),
 I 3 10 (.call true (.f 33) [.k (.sc (.int .i64 10)),.k (.sc (.int .i64 11))]),
 I 4 11 (.call true (.f 30) [.k (.sc (.int .i64 12))]),
 I 5 12 (.bslice 2 3 [.int .i64 0,.int .i64 0] [(0,.t 9),(1,.t 10),(2,.t 11)]),
 I 6 13 (.call true (.f 30) [.k (.sc (.int .i64 3))]),
 I 7 14 (.call true (.f 33) [.k (.sc (.int .i64 4)),.k (.sc (.int .i64 5))]),
 I 8 15 (.call true (.f 30) [.k (.sc (.int .i64 4))]),
 I 9 16 (.build [.int .i64 0,.int .i64 0,.int .i64 0,.int .i64 0,.int .i64 0,.int .i64 0] [(0,2,.t 13),(2,2,.t 14),(4,2,.t 15)]),
 I 10 17 (.build [.int .i64 0,.int .i64 0,.int .i64 0] [(0,1,.k (.sc (.int .i64 1))),(2,1,.k (.sc (.int .i64 1)))]),
 I 11 18 (.build [.int .i64 0,.int .i64 0,.int .i64 0] [(1,1,.k (.sc (.int .i64 1))),(2,1,.k (.sc (.int .i64 1)))]),
 I 12 19 (.build [.int .i64 0,.int .i64 0,.int .i64 0] [(0,1,.k (.sc (.int .i64 1)))]),
 I 13 20 (.build [.int .i64 0,.int .i64 0,.int .i64 0] [(1,1,.k (.sc (.int .i64 1)))]),
 I 14 21 (.bslice 3 4 [.int .i64 0,.int .i64 0,.int .i64 0] [(0,.t 17),(1,.t 18),(2,.t 19),(3,.t 20)]),
 I 15 22 (.build [.sl .nil 2 [],.int .i64 0,.int .i64 0,.int .i64 0,.int .i64 0,.int .i64 0,.int .i64 0,.sl .nil 3 [],.sl .nil 2 [],.sl .nil 4 []] [(0,1,.t 12),(1,6,.t 16),(7,1,.t 21)]),
 I 16 23 (.bslice 1 3 [.int .i64 0] [(0,.k (.sc (.int .i64 0))),(1,.k (.sc (.int .i64 2))),(2,.k (.sc (.int .i64 3)))]),
 I 17 24 (oS 3 4),
 I 18 25 (oS 3 5),
 I 19 26 (.bslice 3 2 [.int .i64 0,.int .i64 0,.int .i64 0] [(0,.t 24),(1,.t 25)]),
 I 20 27 (.build [.int .i64 0,.int .i64 0,.int .i64 0,.int .i64 0,.int .i64 0,.int .i64 0,.int .i64 0,.int .i64 0,.sl .nil 2 [],.int .i64 0,.sl .nil 3 [],.sl .nil 2 [],.int .i64 0,.int .i64 0,.int .i64 0,.int .i64 0,.int .i64 0,.int .i64 0,.sl .nil 3 [],.sl .nil 2 [],.sl .nil 4 [],.sl .nil 1 [],.sl .nil 3 []] [(0,11,.t 8),(11,10,.t 22),(21,1,.t 23),(22,1,.t 26)]),
 J 21 (.store 23 (.t 6) (.t 27))] true [6])
 (.ret))),false⟩
def e5Z:Fn:=⟨1,5,[(2,some (some 3))],
 (.seq (.region 1 [
 I 0 2 (.alloc 0 [.int .i64 0,.int .i64 0,.int .i64 0])] false [0,2])
 (.seq (.region 0 [
 M 0 3 0,
 I 1 4 (.build [.int .i64 0,.int .i64 0,.int .i64 0] [(1,1,.k (.sc (.int .i64 1))),(2,1,.t 3)]),
 J 2 (.store 3 (.t 2) (.t 4))] false [2])
 (.ret))),false⟩
def e6c:Fn:=⟨1,5,[(2,some (some 3))],
 (.seq (.region 1 [
 I 0 2 (.alloc 0 [.int .i64 0,.int .i64 0,.int .i64 0])] false [0,2])
 (.seq (.region 0 [
 M 0 3 0,
 I 1 4 (.build [.int .i64 0,.int .i64 0,.int .i64 0] [(0,1,.t 3),(1,1,.k (.sc (.int .i64 3))),(2,1,.k (.sc (.int .i64 1)))]),
 J 2 (.store 3 (.t 2) (.t 4))] false [2])
 (.ret))),false⟩
def e6b:Fn:=⟨0,6,[(0,some (some 23))],
 (.seq (.region 1 [
 I 0 0 (.alloc 0 [.int .i64 0,.int .i64 0,.int .i64 0,.int .i64 0,.int .i64 0,.int .i64 0,.int .i64 0,.int .i64 0,.sl .nil 2 [],.int .i64 0,.sl .nil 3 [],.sl .nil 2 [],.int .i64 0,.int .i64 0,.int .i64 0,.int .i64 0,.int .i64 0,.int .i64 0,.sl .nil 3 [],.sl .nil 2 [],.sl .nil 4 [],.sl .nil 1 [],.sl .nil 3 []])] false [0])
 (.seq (.region 0 [
 I 0 1 (.build [.int .i64 0,.int .i64 0,.bool false] [(0,1,.k (.sc (.int .i64 0))),(1,1,.k (.sc (.int .i64 1))),(2,1,.k (.sc (.bool true)))]),
 I 1 2 (.bslice 3 1 [.int .i64 0,.int .i64 0,.bool false] [(0,.t 1)]),
 I 2 3 (.call true (.f 260) [.k (.sc (.int .i64 1))]),
 I 3 4 (.call true (.f 261) [.k (.sc (.int .i64 1))]),
 I 4 5 (o3 262 2 3 4),
 J 5 (.store 23 (.t 0) (.t 5))] false [0])
 (.ret))),false⟩
def e5G:Fn:=⟨1,15,[(2,none),(3,none)],
 (.seq (.region 1 [
 I 0 1 (.box 0 (.t 0)),
 I 1 2 (.mv (kB false)),
 I 2 3 (.mv (kI 0))] false [1])
 (.seq (.seq (.region 0 [
 I 0 5 (oS 11 1),
 I 1 6 (o1 267 5),
 M 2 4 6] false [1,4])
 (.seq (.region 0 [
 M 0 7 4,
 I 1 8 (oK .neq 7 0)] false [1,4,8])
 (.cond (.t 8)
 (.seq (.region 0 [
 M 0 9 4,
 I 1 2 (.mv (kB false)),
 M 2 3 9] false [2,3])
 (.ret))
 (.skip))))
 (.seq (.region 0 [
 I 0 10 (oS 11 1),
 I 1 11 (.call true (.f 296) [.t 10,.k (.sc (.sl .nil 1 []))]),
 I 2 12 (.field 12 none (.t 11)),
 I 3 13 (oN 1 12),
 I 4 14 (oK .gtr 13 0),
 M 5 2 14,
 I 6 3 (.mv (kI 0))] false [2,3])
 (.ret)))),false⟩
def e4N:AC :=
 (.seq (.region 0 [
 I 0 67 (oB .lss 66 65)] false [1,3,64,65,66,67])
 (.seq (.cond (.t 67)
 (.skip)
 (.exit 0))
 (.seq (.block 1 (.seq (.region 1 [
 M 0 68 66,
 I 1 69 (oI 2 64 66),
 I 2 70 (oS 2 69),
 I 3 5 (.alloc 0 [.int .i64 0,.int .i64 0]),
 M 4 4 68,
 J 5 (.store 2 (.t 5) (.t 70))] false [1,3,4,5,64,65,66])
 (.frz 5 (.region 0 [
 M 0 71 3,
 M 1 72 71,
 Y 2 73 72 (oS 11 1),
 Y 3 74 72 (oF 0 5),
 Y 4 75 72 (oL 74),
 Y 5 76 72 (oF 1 5),
 Y 6 77 72 (oL 76),
 Y 7 78 72 (o3 291 73 75 77),
 I 8 79 (oA 72 78),
 M 9 80 79,
 Y 10 81 80 (oF 1 5),
 Y 11 82 80 (oL 81),
 Y 12 83 80 (oK .gtr 82 0),
 I 13 84 (oA 80 83),
 M 14 85 84,
 Y 15 86 85 (oF 8 1),
 Y 16 87 85 (oL 86),
 Y 17 88 85 (oM 4),
 Y 18 89 85 (.slice 2 (.t 87) none (some (.t 88)) none),
 Y 19 90 85 (.mkf 300 [] [] [.t 5]),
 Y 20 91 85 (o2 301 89 90),
 Y 21 92 85 (oU .not 91),
 I 22 93 (oA 85 92),
 M 23 3 93] false [1,3,64,65,66]))))
 (.region 0 [
 I 0 94 (oK .add 66 1),
 M 1 66 94] false [1,3,64,65,66]))))
def e8N:AC:=.loop [1,3,64,65,66] e4N
def e5h:AC :=
 (.seq (.region 0 [
 I 0 99 (oB .lss 98 97)] false [1,3,96,97,98,99])
 (.seq (.cond (.t 99)
 (.skip)
 (.exit 2))
 (.seq (.block 3 (.seq (.region 1 [
 I 0 100 (oI 3 96 98),
 I 1 101 (oS 3 100),
 I 2 7 (.alloc 0 [.int .i64 0,.int .i64 0,.bool false]),
 J 3 (.store 3 (.t 7) (.t 101))] false [1,3,7,96,97,98])
 (.region 0 [
 M 0 102 3,
 M 1 103 102,
 Y 2 104 103 (oS 11 1),
 Y 3 105 103 (oF 0 7),
 Y 4 106 103 (oL 105),
 Y 5 107 103 (oF 1 7),
 Y 6 108 103 (oL 107),
 Y 7 109 103 (o3 291 104 106 108),
 I 8 110 (oA 103 109),
 M 9 3 110] false [1,3,96,97,98])))
 (.region 0 [
 I 0 111 (oK .add 98 1),
 M 1 98 111] false [1,3,96,97,98]))))
def e8O:AC:=.loop [1,3,96,97,98] e5h
def e4D:Fn:=⟨1,114,[(2,none)],
 (.seq (.region 1 [
 I 0 1 (.box 0 (.t 0)),
 I 1 2 (.mv (kI 0))] false [1])
 (.seq (.region 0 [
 I 0 8 (oF 0 1),
 I 1 9 (oL 8),
 I 2 10 (.call true (.f 298) [.t 9,.k (.sc (.int .i64 1)),.k (.sc (.int .i64 5))]),
 M 3 11 10,
 Y 4 12 11 (oF 1 1),
 Y 5 13 11 (oL 12),
 Y 6 14 11 (.call true (.f 298) [.t 13,.k (.sc (.int .i64 1)),.k (.sc (.int .i64 6))]),
 I 7 15 (oA 11 14),
 M 8 16 15,
 Y 9 17 16 (oF 3 1),
 Y 10 18 16 (oL 17),
 Y 11 19 16 (oF 1 1),
 Y 12 20 16 (oL 19),
 Y 13 21 16 (oK .sub 20 1),
 Y 14 22 16 (.call true (.f 298) [.t 18,.k (.sc (.int .i64 0)),.t 21]),
 I 15 23 (oA 16 22),
 M 16 24 23,
 Y 17 25 24 (oF 4 1),
 Y 18 26 24 (.iarr 2 2 (.t 25) (kI 0)),
 Y 19 27 24 (oS 2 26),
 Y 20 28 24 (o1 299 27),
 I 21 29 (oA 24 28),
 M 22 30 29,
 Y 23 31 30 (oF 4 1),
 Y 24 32 30 (.iarr 2 2 (.t 31) (kI 1)),
 Y 25 33 30 (oS 2 32),
 Y 26 34 30 (o1 299 33),
 I 27 35 (oA 30 34),
 M 28 36 35,
 Y 29 37 36 (oF 9 1),
 Y 30 38 36 (oL 37),
 Y 31 39 36 (.call true (.f 298) [.t 38,.k (.sc (.int .i64 0)),.k (.sc (.int .i64 3))]),
 I 32 40 (oA 36 39),
 M 33 41 40,
 Y 34 42 41 (oF 8 1),
 Y 35 43 41 (oL 42),
 Y 36 44 41 (oN 1 43),
 Y 37 45 41 (oK .leq 44 3),
 I 38 46 (oA 41 45),
 M 39 47 46,
 Y 40 48 47 (oF 10 1),
 Y 41 49 47 (oL 48),
 Y 42 50 47 (oN 1 49),
 Y 43 51 47 (oK .leq 50 4),
 I 44 52 (oA 47 51),
 M 45 3 52] false [1,3])
 (.seq (.region 0 [
 M 0 53 3,
 M 1 54 53,
 Y 2 55 54 (oF 2 1),
 Y 3 56 54 (oL 55),
 Y 4 57 54 (oF 0 1),
 Y 5 58 54 (oL 57),
 Y 6 59 54 (.bin .shl (kI 1) (.t 58)),
 Y 7 60 54 (oK .sub 59 1),
 Y 8 61 54 (.call true (.f 298) [.t 56,.k (.sc (.int .i64 1)),.t 60]),
 I 9 62 (oA 54 61),
 M 10 3 62] true [1,3])
 (.seq (.seq (.region 0 [
 I 0 63 (oF 8 1),
 I 1 64 (oL 63),
 I 2 65 (oN 1 64),
 I 3 66 (.mv (kI 0))] false [1,3,64,65,66])
 (.block 0 (e8N)))
 (.seq (.seq (.region 0 [
 I 0 95 (oF 10 1),
 I 1 96 (oL 95),
 I 2 97 (oN 1 96),
 I 3 98 (.mv (kI 0))] false [1,3,96,97,98])
 (.block 2 (e8O)))
 (.seq (.seq (.region 0 [
 M 0 112 3,
 I 1 113 (oU .not 112)] false [113])
 (.cond (.t 113)
 (.seq (.region 0 [
 I 0 2 (.mv (kI 30))] false [2])
 (.ret))
 (.skip)))
 (.seq (.region 0 [
 I 0 2 (.mv (kI 0))] false [2])
 (.ret)))))))),false⟩
def e6t:Fn:=⟨3,15,[(6,none)],
 (.seq (.region 0 [
 I 0 6 (.mv (kB false))] false [0,1,2])
 (.seq (.region 0 [
 M 0 7 1,
 M 1 8 0,
 I 2 9 (oB .leq 7 8),
 M 3 10 9,
 Y 4 11 10 (oM 0),
 Y 5 12 10 (oM 2),
 Y 6 13 10 (oB .leq 11 12),
 I 7 14 (oA 10 13),
 M 8 6 14] false [6])
 (.ret))),false⟩
def e6A:Fn:=⟨2,12,[(4,none)],
 (.seq (.region 1 [
 I 0 2 (.box 0 (.t 0)),
 I 1 4 (.mv (kB false))] false [1,2])
 (.seq (.region 0 [
 M 0 5 1,
 I 1 6 (oF 11 2),
 I 2 7 (oF 7 6),
 I 3 8 (oL 7),
 I 4 9 (oN 1 8),
 I 5 10 (oK .sub 9 1),
 I 6 11 (.call true (.f 268) [.t 5,.k (.sc (.int .i64 0)),.t 10]),
 M 7 4 11] false [4])
 (.ret))),false⟩
def e5E:Fn:=⟨2,25,[(4,some (some 24)),(5,none)],
 (.seq (.region 2 [
 I 0 2 (.box 0 (.t 0)),
 I 1 4 (.alloc 1 [.int .i64 0,.int .i64 0,.int .i64 0,.int .i64 0,.int .i64 0,.int .i64 0,.int .i64 0,.int .i64 0,.sl .nil 2 [],.int .i64 0,.sl .nil 3 [],.sl .nil 2 [],.int .i64 0,.int .i64 0,.int .i64 0,.int .i64 0,.int .i64 0,.int .i64 0,.sl .nil 3 [],.sl .nil 2 [],.sl .nil 4 [],.sl .nil 1 [],.sl .nil 3 [],.imap true false []]),
 I 2 5 (.mv (kI 0))] false [1,2,4])
 (.seq (.region 0 [
 I 0 9 (oS 23 2),
 I 1 10 (o1 234 9),
 M 2 8 10,
 I 3 11 (oE 8 0),
 I 4 12 (oE 8 1),
 M 5 6 11,
 M 6 7 12] false [1,2,4,6,7])
 (.seq (.seq (.region 0 [
 M 0 13 7,
 I 1 14 (oK .neq 13 0)] false [1,2,4,6,7,14])
 (.cond (.t 14)
 (.seq (.region 0 [
 I 0 15 (.build [.int .i64 0,.int .i64 0,.int .i64 0,.int .i64 0,.int .i64 0,.int .i64 0,.int .i64 0,.int .i64 0,.sl .nil 2 [],.int .i64 0,.sl .nil 3 [],.sl .nil 2 [],.int .i64 0,.int .i64 0,.int .i64 0,.int .i64 0,.int .i64 0,.int .i64 0,.sl .nil 3 [],.sl .nil 2 [],.sl .nil 4 [],.sl .nil 1 [],.sl .nil 3 [],.imap true false []] []),
 M 1 16 7,
 J 2 (.store 24 (.t 4) (.t 15)),
 M 3 5 16] false [4,5])
 (.ret))
 (.skip)))
 (.seq (.seq (.region 0 [
 M 0 17 1,
 I 1 18 (oU .not 17)] false [2,4,6,18])
 (.cond (.t 18)
 (.seq (.region 0 [
 I 0 19 (.build [.int .i64 0,.int .i64 0,.int .i64 0,.int .i64 0,.int .i64 0,.int .i64 0,.int .i64 0,.int .i64 0,.sl .nil 2 [],.int .i64 0,.sl .nil 3 [],.sl .nil 2 [],.int .i64 0,.int .i64 0,.int .i64 0,.int .i64 0,.int .i64 0,.int .i64 0,.sl .nil 3 [],.sl .nil 2 [],.sl .nil 4 [],.sl .nil 1 [],.sl .nil 3 [],.imap true false []] []),
 J 1 (.store 24 (.t 4) (.t 19)),
 I 2 5 (.mv (kI 101))] false [4,5])
 (.ret))
 (.skip)))
 (.seq (.seq (.region 0 [
 M 0 20 6,
 I 1 21 (oU .not 20)] false [2,4,21])
 (.cond (.t 21)
 (.seq (.region 0 [
 I 0 22 (.build [.int .i64 0,.int .i64 0,.int .i64 0,.int .i64 0,.int .i64 0,.int .i64 0,.int .i64 0,.int .i64 0,.sl .nil 2 [],.int .i64 0,.sl .nil 3 [],.sl .nil 2 [],.int .i64 0,.int .i64 0,.int .i64 0,.int .i64 0,.int .i64 0,.int .i64 0,.sl .nil 3 [],.sl .nil 2 [],.sl .nil 4 [],.sl .nil 1 [],.sl .nil 3 [],.imap true false []] []),
 J 1 (.store 24 (.t 4) (.t 22)),
 I 2 5 (.mv (kI 102))] false [4,5])
 (.ret))
 (.skip)))
 (.seq (.region 0 [
 I 0 23 (oS 23 2),
 I 1 24 (o1 305 23),
 J 2 (.store 24 (.t 4) (.t 24)),
 I 3 5 (.mv (kI 0))] false [4,5])
 (.ret))))))),false⟩
def e4R:AC :=
 (.seq (.region 0 [
 I 0 12 (oB .lss 11 10)] false [1,2,5,10,11,12])
 (.seq (.cond (.t 12)
 (.skip)
 (.exit 0))
 (.seq (.block 1 (.seq (.region 0 [
 M 0 13 11,
 M 1 6 13] false [1,2,5,6,10,11])
 (.seq (.region 0 [
 I 0 14 (oF 23 2),
 I 1 15 (oL 14),
 M 2 16 6,
 M 3 17 1,
 I 4 18 (.build [.int .i64 0,.int .i64 0] [(0,1,.t 16),(1,1,.t 17)]),
 I 5 19 (.lookup false ⟨true,[1,1]⟩ (.sc (.bool false)) (.t 15) (.t 18))] false [1,2,5,6,10,11,19])
 (.cond (.t 19)
 (.region 0 [
 I 0 20 (.mv (.tk 5)),
 M 1 21 6,
 I 2 22 (.bslice 1 1 [.int .i64 0] [(0,.t 21)]),
 I 3 23 (.append 1 (.tk 20) (.t 22)),
 I 4 5 (.mv (.tk 23))] false [1,2,5,10,11])
 (.skip)))))
 (.region 0 [
 I 0 24 (oK .add 11 1),
 M 1 11 24] false [1,2,5,10,11]))))
def e7v:AC:=.loop [1,2,5,10,11] e4R
def e5J:Fn:=⟨2,31,[(4,none)],
 (.seq (.region 1 [
 I 0 2 (.box 0 (.t 0)),
 I 1 4 (.mv (.k (.sc (.sl .nil 1 []))))] false [1,2])
 (.seq (.region 0 [
 I 0 5 (.mv (.k (.sc (.sl .nil 1 []))))] false [1,2,5])
 (.seq (.seq (.region 0 [
 I 0 7 (oF 0 2),
 I 1 8 (oF 21 7),
 I 2 9 (oL 8),
 I 3 10 (oN 1 9),
 I 4 11 (.mv (kI 0))] false [1,2,5,10,11])
 (.block 0 (e7v)))
 (.seq (.region 0 [
 M 0 25 5,
 M 1 26 5,
 I 2 27 (oN 1 26),
 M 3 28 5,
 I 4 29 (oN 1 28),
 I 5 30 (.slice 1 (.t 25) none (some (.t 27)) (some (.t 29))),
 M 6 4 30] false [4])
 (.ret))))),false⟩
def e5K:Fn:=⟨2,11,[(4,none)],
 (.seq (.region 1 [
 I 0 2 (.box 0 (.t 0)),
 I 1 4 (.mv (kB false))] false [1,2])
 (.seq (.region 0 [
 M 0 5 1,
 I 1 6 (oF 22 2),
 I 2 7 (oL 6),
 I 3 8 (oN 1 7),
 I 4 9 (oK .sub 8 1),
 I 5 10 (.call true (.f 268) [.t 5,.k (.sc (.int .i64 0)),.t 9]),
 M 6 4 10] false [4])
 (.ret))),false⟩
def e4T:AC :=
 (.seq (.region 0 [
 I 0 17 (oB .lss 16 15)] false [1,5,6,15,16,17])
 (.seq (.cond (.t 17)
 (.skip)
 (.exit 0))
 (.seq (.block 1 (.seq (.region 0 [
 M 0 18 16,
 M 1 7 18] false [1,5,6,7,15,16])
 (.seq (.region 1 [
 I 0 19 (.load (some 3) (.g 6)),
 I 1 8 (.alloc 0 [.int .i64 0,.int .i64 0,.int .i64 0]),
 J 2 (.store 3 (.t 8) (.t 19))] false [1,5,6,7,8,15,16])
 (.seq (.region 0 [
 M 0 20 1,
 M 1 21 7,
 I 2 22 (.iarr 3 1 (.t 8) (.t 20)),
 J 3 (.store 1 (.t 22) (.t 21))] false [1,5,6,7,8,15,16])
 (.seq (.region 0 [
 M 0 23 6,
 I 1 24 (oS 3 8),
 I 2 25 (.call true (.t 23) [.t 24])] false [1,5,6,7,15,16,25])
 (.cond (.t 25)
 (.region 0 [
 I 0 26 (.mv (.tk 5)),
 M 1 27 7,
 I 2 28 (.bslice 1 1 [.int .i64 0] [(0,.t 27)]),
 I 3 29 (.append 1 (.tk 26) (.t 28)),
 I 4 5 (.mv (.tk 29))] false [1,5,6,15,16])
 (.skip)))))))
 (.region 0 [
 I 0 30 (oK .add 16 1),
 M 1 16 30] false [1,5,6,15,16]))))
def e7A:AC:=.loop [1,5,6,15,16] e4T
def e5M:Fn:=⟨2,37,[(4,none)],
 (.seq (.region 1 [
 I 0 2 (.box 0 (.t 0)),
 I 1 4 (.mv (.k (.sc (.sl .nil 1 []))))] false [1,2])
 (.seq (.region 0 [
 I 0 5 (.mv (.k (.sc (.sl .nil 1 []))))] false [1,2,5])
 (.seq (.region 0 [
 I 0 9 (oS 24 2),
 I 1 10 (.mkf 283 [some 24] [.t 9] []),
 M 2 6 10] false [1,2,5,6])
 (.seq (.seq (.region 0 [
 I 0 11 (oF 0 2),
 I 1 12 (oF 11 11),
 I 2 13 (oF 7 12),
 I 3 14 (oL 13),
 I 4 15 (oN 1 14),
 I 5 16 (.mv (kI 0))] false [1,5,6,15,16])
 (.block 0 (e7A)))
 (.seq (.region 0 [
 M 0 31 5,
 M 1 32 5,
 I 2 33 (oN 1 32),
 M 3 34 5,
 I 4 35 (oN 1 34),
 I 5 36 (.slice 1 (.t 31) none (some (.t 33)) (some (.t 35))),
 M 6 4 36] false [4])
 (.ret)))))),false⟩
def e6a:Fn:=⟨0,4,[(0,some (some 23))],
 (.seq (.region 1 [
 I 0 0 (.alloc 0 [.int .i64 0,.int .i64 0,.int .i64 0,.int .i64 0,.int .i64 0,.int .i64 0,.int .i64 0,.int .i64 0,.sl .nil 2 [],.int .i64 0,.sl .nil 3 [],.sl .nil 2 [],.int .i64 0,.int .i64 0,.int .i64 0,.int .i64 0,.int .i64 0,.int .i64 0,.sl .nil 3 [],.sl .nil 2 [],.sl .nil 4 [],.sl .nil 1 [],.sl .nil 3 []])] false [0])
 (.seq (.region 0 [
 I 0 1 (.call true (.f 260) [.k (.sc (.int .i64 2))]),
 I 1 2 (.call true (.f 261) [.k (.sc (.int .i64 1))]),
 I 2 3 (.call true (.f 262) [.k (.sc (.sl .nil 3 [])),.t 1,.t 2]),
 J 3 (.store 23 (.t 0) (.t 3))] false [0])
 (.ret))),false⟩
def e6k:Fn:=⟨0,4,[(0,some (some 23))],
 (.seq (.region 1 [
 I 0 0 (.alloc 0 [.int .i64 0,.int .i64 0,.int .i64 0,.int .i64 0,.int .i64 0,.int .i64 0,.int .i64 0,.int .i64 0,.sl .nil 2 [],.int .i64 0,.sl .nil 3 [],.sl .nil 2 [],.int .i64 0,.int .i64 0,.int .i64 0,.int .i64 0,.int .i64 0,.int .i64 0,.sl .nil 3 [],.sl .nil 2 [],.sl .nil 4 [],.sl .nil 1 [],.sl .nil 3 []])] false [0])
 (.seq (.region 0 [
 I 0 1 (.call true (.f 260) [.k (.sc (.int .i64 1))]),
 I 1 2 (.call true (.f 261) [.k (.sc (.int .i64 2))]),
 I 2 3 (.call true (.f 262) [.k (.sc (.sl .nil 3 [])),.t 1,.t 2]),
 J 3 (.store 23 (.t 0) (.t 3))] false [0])
 (.ret))),false⟩
def e4G:Fn:=⟨2,20,[(4,some (some 3)),(5,none)],
 (.seq (.region 2 [
 I 0 2 (.box 0 (.t 0)),
 I 1 4 (.alloc 1 [.int .i64 0,.int .i64 0,.int .i64 0]),
 I 2 5 (.mv (kB false))] false [1,2,4])
 (.seq (.region 1 [
 I 0 7 (.load (some 3) (.g 6)),
 I 1 6 (.alloc 0 [.int .i64 0,.int .i64 0,.int .i64 0]),
 J 2 (.store 3 (.t 6) (.t 7))] false [1,2,4,6])
 (.seq (.seq (.region 0 [
 M 0 8 1,
 I 1 9 (oN 1 8),
 I 2 10 (oF 0 2),
 I 3 11 (oF 22 10),
 I 4 12 (oL 11),
 I 5 13 (oN 1 12),
 I 6 14 (oB .neq 9 13)] false [1,4,6,14])
 (.cond (.t 14)
 (.seq (.region 0 [
 I 0 15 (oS 3 6),
 J 1 (.store 3 (.t 4) (.t 15)),
 I 2 5 (.mv (kB false))] false [4,5])
 (.ret))
 (.skip)))
 (.seq (.region 0 [
 I 0 16 (.slArr 3 1 (.t 6) none none none),
 M 1 17 1,
 I 2 18 (.copy 1 (.t 16) (.t 17))] false [4,6])
 (.seq (.region 0 [
 I 0 19 (oS 3 6),
 J 1 (.store 3 (.t 4) (.t 19)),
 I 2 5 (.mv (kB true))] false [4,5])
 (.ret)))))),false⟩
def e5j:AC :=
 (.seq (.region 0 [
 I 0 32 (oB .lss 31 30)] false [2,3,5,6,29,30,31,32])
 (.seq (.cond (.t 32)
 (.skip)
 (.exit 0))
 (.seq (.block 1 (.seq (.region 1 [
 I 0 33 (oI 4 29 31),
 I 1 34 (oS 4 33),
 I 2 8 (.alloc 0 [.int .i64 0,.int .i64 0,.int .i64 0,.int .i64 0]),
 J 3 (.store 4 (.t 8) (.t 34))] false [2,3,5,6,8,29,30,31])
 (.region 0 [
 M 0 35 6,
 I 1 36 (oF 1 8),
 I 2 37 (oL 36),
 I 3 38 (oK .add 37 1),
 I 4 39 (.max (.t 35) [.t 38]),
 M 5 6 39] false [2,3,5,6,29,30,31])))
 (.region 0 [
 I 0 40 (oK .add 31 1),
 M 1 31 40] false [2,3,5,6,29,30,31]))))
def e7t:AC:=.loop [2,3,5,6,29,30,31] e5j
def e4v:AC :=
 (.seq (.region 0 [
 I 0 43 (oK .lss 42 3)] false [2,5,6,9,41,42,43])
 (.seq (.cond (.t 43)
 (.skip)
 (.exit 2))
 (.seq (.block 3 (.seq (.region 0 [
 M 0 44 42,
 I 1 45 (.index 3 1 none (.t 41) (.t 42)),
 M 2 10 44,
 M 3 11 45] false [2,5,6,9,10,11,41,42])
 (.seq (.seq (.region 0 [
 M 0 46 11,
 I 1 47 (oK .eql 46 9)] false [2,5,6,9,10,11,41,42,47])
 (.cond (.t 47)
 (.exit 3)
 (.skip)))
 (.seq (.region 1 [
 I 0 48 (oF 0 2),
 I 1 49 (oF 22 48),
 I 2 50 (oL 49),
 M 3 51 10,
 I 4 52 (oI 3 50 51),
 I 5 53 (oS 3 52),
 I 6 12 (.alloc 0 [.int .i64 0,.int .i64 0,.int .i64 0]),
 J 7 (.store 3 (.t 12) (.t 53))] false [2,5,6,9,11,12,41,42])
 (.seq (.seq (.region 0 [
 M 0 54 11,
 M 1 55 6,
 I 2 56 (oF 0 12),
 I 3 57 (oL 56),
 I 4 58 (.max (.t 55) [.t 57]),
 I 5 59 (oF 1 12),
 I 6 60 (oL 59),
 I 7 61 (o3 268 54 58 60),
 I 8 62 (oU .not 61),
 M 9 63 62,
 U 10 64 63 (oF 0 2),
 U 11 65 63 (oF 11 64),
 U 12 66 63 (oF 7 65),
 U 13 67 63 (oL 66),
 U 14 68 63 (oM 11),
 U 15 69 63 (oI 3 67 68),
 U 16 70 63 (oF 0 69),
 U 17 71 63 (oL 70),
 U 18 72 63 (oK .gtr 71 1),
 I 19 73 (oO 63 72),
 M 20 74 73,
 U 21 75 74 (oM 9),
 U 22 76 74 (oM 11),
 U 23 77 74 (.call true (.f 76) [.pk 9,.t 76]),
 I 24 78 (oO 74 77)] false [2,5,6,9,11,12,41,42,78])
 (.cond (.t 78)
 (.seq (.region 0 [
 I 0 4 (.mv (kB false))] false [4])
 (.ret))
 (.skip)))
 (.seq (.region 0 [
 I 0 79 (.mv (.tk 9)),
 M 1 80 11,
 I 2 81 (.bslice 1 1 [.int .i64 0] [(0,.t 80)]),
 I 3 82 (.append 1 (.tk 79) (.t 81)),
 I 4 9 (.mv (.tk 82))] false [2,5,6,9,11,12,41,42])
 (.seq (.region 0 [
 I 0 83 (oF 7 5),
 I 1 84 (oL 83),
 M 2 85 11,
 I 3 86 (oI 3 84 85),
 I 4 87 (oF 0 86),
 I 5 88 (oL 87),
 I 6 89 (oK .add 88 1),
 I 7 90 (oI 3 84 85),
 I 8 91 (oF 0 90),
 J 9 (.store 1 (.t 91) (.t 89))] false [2,5,6,9,11,12,41,42])
 (.region 0 [
 I 0 92 (oF 7 5),
 I 1 93 (oL 92),
 M 2 94 11,
 I 3 95 (oF 7 5),
 I 4 96 (oL 95),
 M 5 97 11,
 I 6 98 (oI 3 96 97),
 I 7 99 (oF 2 98),
 I 8 100 (oL 99),
 I 9 101 (oF 2 12),
 I 10 102 (oL 101),
 I 11 103 (.max (.t 100) [.t 102]),
 I 12 104 (oI 3 93 94),
 I 13 105 (oF 2 104),
 J 14 (.store 1 (.t 105) (.t 103))] true [2,5,6,9,41,42]))))))))
 (.region 0 [
 I 0 106 (oK .add 42 1),
 M 1 42 106] false [2,5,6,9,41,42]))))
def e5d:AC:=.loop [2,5,6,9,41,42] e4v
def e4Q:AC :=
 (.seq (.region 0 [
 I 0 120 (oB .lss 119 118)] false [2,5,13,15,109,110,111,117,118,119,120])
 (.seq (.cond (.t 120)
 (.skip)
 (.exit 6))
 (.seq (.block 7 (.seq (.region 0 [
 I 0 121 (oI 1 117 119),
 I 1 122 (oL 121),
 M 2 17 122] false [2,5,13,15,17,109,110,111,117,118,119])
 (.seq (.region 1 [
 M 0 123 15,
 M 1 124 17,
 I 2 125 (.build [.int .i64 0,.int .i64 0] [(0,1,.t 123),(1,1,.t 124)]),
 I 3 18 (.alloc 0 [.int .i64 0,.int .i64 0]),
 J 4 (.store 2 (.t 18) (.t 125))] false [2,5,13,15,18,109,110,111,117,118,119])
 (.seq (.region 0 [
 I 0 126 (oF 8 5),
 I 1 127 (oL 126),
 I 2 128 (oS 2 18),
 I 3 129 (o2 155 127 128),
 I 4 130 (oU .not 129)] false [2,5,13,15,18,109,110,111,117,118,119,130])
 (.cond (.t 130)
 (.region 0 [
 I 0 131 (.mv (.tk 13)),
 I 1 132 (oS 2 18),
 I 2 133 (.bslice 2 1 [.int .i64 0,.int .i64 0] [(0,.t 132)]),
 I 3 134 (.append 2 (.tk 131) (.t 133)),
 I 4 13 (.mv (.tk 134))] false [2,5,13,15,109,110,111,117,118,119])
 (.skip))))))
 (.region 0 [
 I 0 135 (oK .add 119 1),
 M 1 119 135] false [2,5,13,15,109,110,111,117,118,119]))))
def e7u:AC:=.loop [2,5,13,15,109,110,111,117,118,119] e4Q
def e4M:AC :=
 (.seq (.region 0 [
 I 0 112 (oB .lss 111 110)] false [2,5,13,109,110,111,112])
 (.seq (.cond (.t 112)
 (.skip)
 (.exit 4))
 (.seq (.block 5 (.seq (.region 0 [
 I 0 113 (oI 1 109 111),
 I 1 114 (oL 113),
 M 2 15 114] false [2,5,13,15,109,110,111])
 (.seq (.region 0 [
 I 0 115 (oS 24 2),
 M 1 116 15,
 I 2 117 (o2 273 115 116),
 I 3 118 (oN 1 117),
 I 4 119 (.mv (kI 0))] false [2,5,13,15,109,110,111,117,118,119])
 (.block 6 (e7u)))))
 (.region 0 [
 I 0 136 (oK .add 111 1),
 M 1 111 136] false [2,5,13,109,110,111]))))
def e6X:AC:=.loop [2,5,13,109,110,111] e4M
def e4S:Fn:=⟨2,144,[(4,none)],
 (.seq (.region 2 [
 I 0 2 (.box 0 (.t 0)),
 I 1 3 (.box 1 (.t 1)),
 I 2 4 (.mv (kB false))] false [2,3])
 (.seq (.region 1 [
 I 0 21 (oF 0 2),
 I 1 22 (oF 11 21),
 I 2 23 (oS 10 22),
 I 3 5 (.alloc 0 [.sl .nil 2 [],.int .i64 0,.int .i64 0,.int .i64 0,.int .i64 0,.int .i64 0,.int .i64 0,.sl .nil 3 [],.sl .nil 2 [],.sl .nil 4 []]),
 J 4 (.store 10 (.t 5) (.t 23))] false [2,3,5])
 (.seq (.region 0 [
 I 0 24 (oF 7 5),
 I 1 25 (oL 24),
 I 2 26 (.call false (.f 361) [.t 25]),
 I 3 27 (oF 7 5),
 J 4 (.store 1 (.t 27) (.t 26))] false [2,3,5])
 (.seq (.region 0 [
 I 0 6 (.mv (kI 0))] false [2,3,5,6])
 (.seq (.seq (.region 0 [
 I 0 28 (oF 9 5),
 I 1 29 (oL 28),
 I 2 30 (oN 1 29),
 I 3 31 (.mv (kI 0))] false [2,3,5,6,29,30,31])
 (.block 0 (e7t)))
 (.seq (.region 0 [
 I 0 9 (.mv (.k (.sc (.sl .nil 1 []))))] false [2,3,5,6,9])
 (.frz 9 (.seq (.seq (.region 0 [
 I 0 41 (oS 3 3),
 I 1 42 (.mv (kI 0))] false [2,5,6,9,41,42])
 (.block 2 (e5d)))
 (.frz 9 (.seq (.region 0 [
 M 0 107 9,
 I 1 108 (.call false (.f 308) [.t 107])] false [2,5,9])
 (.frzc 9 (.seq (.region 0 [
 I 0 13 (.mv (.k (.sc (.sl .nil 2 []))))] false [2,5,9,13])
 (.seq (.seq (.region 0 [
 M 0 109 9,
 I 1 110 (oN 1 109),
 I 2 111 (.mv (kI 0))] false [2,5,13,109,110,111])
 (.block 4 (e6X)))
 (.frzc 5 (.seq (.region 0 [
 I 0 138 (oS 10 5),
 M 1 139 13,
 I 2 140 (o2 105 138 139),
 M 3 137 140,
 I 4 141 (oE 137 0),
 I 5 142 (oE 137 1),
 M 6 19 141,
 M 7 20 142] false [19])
 (.seq (.region 0 [
 M 0 143 19,
 M 1 4 143] false [4])
 (.ret))))))))))))))))),false⟩
def e6I:Fn:=⟨0,2,[(0,some (some 1))],
 (.seq (.region 1 [
 I 0 0 (.alloc 0 [.nilf])] false [0])
 (.seq (.region 0 [
 I 0 1 (.build [.nilf] [(0,1,.f 310)]),
 J 1 (.store 1 (.t 0) (.t 1))] false [0])
 (.ret))),false⟩
def e5N:Fn:=⟨1,4,[(2,none)],
 (.seq (.region 1 [
 I 0 1 (.box 0 (.t 0)),
 I 1 2 (.mv (.k (.sc .nilf)))] false [1])
 (.frz 1 (.seq (.region 0 [
 I 0 3 (.mkf 311 [] [] [.t 1]),
 M 1 2 3] false [2])
 (.ret)))),false⟩
def e5r:Fn:=⟨2,25,[(4,some (some 13)),(5,none)],
 (.seq (.region 2 [
 I 0 2 (.box 0 (.t 0)),
 I 1 4 (.alloc 1 [.int .i64 0,.int .i64 0,.int .i64 0,.int .i64 0,.int .i64 0,.int .i64 0,.int .i64 0,.int .i64 0,.sl .nil 2 [],.int .i64 0,.sl .nil 3 [],.imap true false [],.sl .nil 9 []]),
 I 2 5 (.mv (kI 0))] false [1,2,4])
 (.seq (.seq (.region 0 [
 I 0 8 (oS 11 2),
 I 1 9 (o1 267 8),
 M 2 6 9] false [1,2,4,6])
 (.seq (.region 0 [
 M 0 10 6,
 I 1 11 (oK .neq 10 0)] false [1,2,4,6,11])
 (.cond (.t 11)
 (.seq (.region 0 [
 I 0 12 (.build [.int .i64 0,.int .i64 0,.int .i64 0,.int .i64 0,.int .i64 0,.int .i64 0,.int .i64 0,.int .i64 0,.sl .nil 2 [],.int .i64 0,.sl .nil 3 [],.imap true false [],.sl .nil 9 []] []),
 M 1 13 6,
 J 2 (.store 13 (.t 4) (.t 12)),
 M 3 5 13] false [4,5])
 (.ret))
 (.skip))))
 (.seq (.seq (.region 0 [
 M 0 14 1,
 I 1 15 (oU .not 14)] false [2,4,15])
 (.cond (.t 15)
 (.seq (.region 0 [
 I 0 16 (.build [.int .i64 0,.int .i64 0,.int .i64 0,.int .i64 0,.int .i64 0,.int .i64 0,.int .i64 0,.int .i64 0,.sl .nil 2 [],.int .i64 0,.sl .nil 3 [],.imap true false [],.sl .nil 9 []] []),
 J 1 (.store 13 (.t 4) (.t 16)),
 I 2 5 (.mv (kI 31))] false [4,5])
 (.ret))
 (.skip)))
 (.seq (.region 1 [
 I 0 17 (oS 11 2),
 I 1 18 (.call true (.f 296) [.t 17,.k (.sc (.sl .nil 1 []))]),
 I 2 7 (.alloc 0 [.int .i64 0,.int .i64 0,.int .i64 0,.int .i64 0,.int .i64 0,.int .i64 0,.int .i64 0,.int .i64 0,.sl .nil 2 [],.int .i64 0,.sl .nil 3 [],.imap true false [],.sl .nil 9 []]),
 J 3 (.store 13 (.t 7) (.t 18))] false [4,7])
 (.seq (.seq (.region 0 [
 I 0 19 (oF 12 7),
 I 1 20 (oL 19),
 I 2 21 (oN 1 20),
 I 3 22 (oK .eql 21 0)] false [4,7,22])
 (.cond (.t 22)
 (.seq (.region 0 [
 I 0 23 (oS 13 7),
 J 1 (.store 13 (.t 4) (.t 23)),
 I 2 5 (.mv (kI 32))] false [4,5])
 (.ret))
 (.skip)))
 (.seq (.region 0 [
 I 0 24 (oS 13 7),
 J 1 (.store 13 (.t 4) (.t 24)),
 I 2 5 (.mv (kI 0))] false [4,5])
 (.ret))))))),false⟩
def e6g:Fn:=⟨3,19,[(6,none)],
 (.seq (.region 1 [
 I 0 3 (.box 0 (.t 0)),
 I 1 6 (.mv (kB false))] false [1,2,3])
 (.seq (.region 0 [
 M 0 7 1,
 I 1 8 (oF 0 3),
 I 2 9 (oL 8),
 I 3 10 (oK .sub 9 1),
 I 4 11 (.call true (.f 298) [.t 7,.k (.sc (.int .i64 0)),.t 10]),
 M 5 12 11,
 Y 6 13 12 (oM 2),
 Y 7 14 12 (oF 1 3),
 Y 8 15 12 (oL 14),
 Y 9 16 12 (oK .sub 15 1),
 Y 10 17 12 (.call true (.f 298) [.t 13,.k (.sc (.int .i64 0)),.t 16]),
 I 11 18 (oA 12 17),
 M 12 6 18] false [6])
 (.ret))),false⟩
def e5e:AC :=
 (.seq (.region 0 [
 I 0 19 (oB .lss 18 17)] false [1,5,6,16,17,18,19])
 (.seq (.cond (.t 19)
 (.skip)
 (.exit 0))
 (.seq (.block 1 (.seq (.region 1 [
 I 0 20 (oI 9 16 18),
 I 1 21 (oS 9 20),
 I 2 8 (.alloc 0 [.int .i64 0,.int .i64 0,.int .i64 0,.int .i64 0,.int .i64 0,.int .i64 0,.int .i64 0,.int .i64 0,.int .i64 0]),
 J 3 (.store 9 (.t 8) (.t 21))] false [1,5,6,8,16,17,18])
 (.seq (.region 0 [
 M 0 22 1,
 I 1 23 (oS 9 8),
 I 2 24 (.call true (.t 22) [.t 23])] false [1,5,6,16,17,18,24])
 (.cond (.t 24)
 (.region 0 [
 I 0 25 (oF 0 5),
 I 1 26 (oL 25),
 I 2 27 (oK .add 26 1),
 I 3 28 (oF 0 5),
 J 4 (.store 1 (.t 28) (.t 27))] false [1,5,6,16,17,18])
 (.skip)))))
 (.region 0 [
 I 0 29 (oK .add 18 1),
 M 1 18 29] false [1,5,6,16,17,18]))))
def e7V:AC:=.loop [1,5,6,16,17,18] e5e
def e4O:AC :=
 (.seq (.region 0 [
 I 0 32 (oK .lss 31 2)] false [5,6,30,31,32])
 (.seq (.cond (.t 32)
 (.skip)
 (.exit 2))
 (.seq (.block 3 (.seq (.region 0 [
 I 0 33 (.index 2 1 none (.t 30) (.t 31)),
 M 1 10 33] false [5,6,10,30,31])
 (.seq (.region 0 [
 M 0 34 10,
 I 1 35 (oS 2 5),
 I 2 36 (.call true (.t 34) [.t 35])] false [5,6,30,31,36])
 (.cond (.t 36)
 (.region 0 [
 M 0 37 6,
 I 1 38 (oK .add 37 1),
 M 2 6 38] false [5,6,30,31])
 (.skip)))))
 (.region 0 [
 I 0 39 (oK .add 31 1),
 M 1 31 39] false [5,6,30,31]))))
def e4P:AC:=.loop [5,6,30,31] e4O
def e4W:Fn:=⟨2,41,[(4,none)],
 (.seq (.region 1 [
 I 0 2 (.box 0 (.t 0)),
 I 1 4 (.mv (kI 0))] false [1,2])
 (.seq (.region 1 [
 I 0 11 (oF 12 2),
 I 1 12 (oL 11),
 I 2 13 (oN 1 12),
 I 3 14 (.build [.int .i64 0,.int .i64 0] [(1,1,.t 13)]),
 I 4 5 (.alloc 0 [.int .i64 0,.int .i64 0]),
 J 5 (.store 2 (.t 5) (.t 14)),
 I 6 6 (.mv (kI 0))] false [1,2,5,6])
 (.seq (.seq (.region 0 [
 I 0 15 (oF 12 2),
 I 1 16 (oL 15),
 I 2 17 (oN 1 16),
 I 3 18 (.mv (kI 0))] false [1,5,6,16,17,18])
 (.block 0 (e7V)))
 (.seq (.seq (.region 0 [
 I 0 30 (.load (some 2) (.g 7)),
 I 1 31 (.mv (kI 0))] false [5,6,30,31])
 (.block 2 (e4P)))
 (.seq (.region 0 [
 M 0 40 6,
 M 1 4 40] false [4])
 (.ret)))))),false⟩
def e7f:Fn:=⟨3,10,[(4,none)],
 (.seq (.region 1 [
 I 0 3 (.box 0 (.t 0)),
 I 1 4 (.mv (kB false))] false [1,2,3])
 (.seq (.region 0 [
 I 0 5 (oS 9 3),
 I 1 6 (oL 1),
 I 2 7 (oL 2),
 I 3 8 (.build [.int .i64 0,.int .i64 0] [(0,1,.t 6),(1,1,.t 7)]),
 I 4 9 (o2 312 5 8),
 M 5 4 9] false [4])
 (.ret))),false⟩
def e6x:Fn:=⟨2,13,[(4,none)],
 (.seq (.region 2 [
 I 0 2 (.box 0 (.t 0)),
 I 1 3 (.box 1 (.t 1)),
 I 2 4 (.mv (kB false))] false [2,3])
 (.seq (.region 0 [
 I 0 5 (oF 0 3),
 I 1 6 (oL 5),
 I 2 7 (oF 4 2),
 I 3 8 (.iarr 5 1 (.t 7) (.t 6)),
 I 4 9 (oL 8),
 I 5 10 (oF 1 3),
 I 6 11 (oL 10),
 I 7 12 (.call true (.f 298) [.t 9,.k (.sc (.int .i64 0)),.t 11]),
 M 8 4 12] true [4])
 (.ret))),false⟩
def e6r:Fn:=⟨1,8,[(2,some (some 11))],
 (.seq (.region 1 [
 I 0 2 (.alloc 0 [.int .i64 0,.int .i64 0,.int .i64 0,.int .i64 0,.int .i64 0,.int .i64 0,.int .i64 0,.int .i64 0,.sl .nil 2 [],.int .i64 0,.sl .nil 3 []])] false [0,2])
 (.seq (.region 0 [
 I 0 3 (.call true (.f 33) [.k (.sc (.int .i64 1)),.k (.sc (.int .i64 2))]),
 I 1 4 (.call true (.f 30) [.k (.sc (.int .i64 1))]),
 I 2 5 (.build [.int .i64 0,.int .i64 0,.int .i64 0,.int .i64 0] [(0,2,.t 3),(2,2,.t 4)]),
 M 3 6 0,
 I 4 7 (.build [.int .i64 0,.int .i64 0,.int .i64 0,.int .i64 0,.int .i64 0,.int .i64 0,.int .i64 0,.int .i64 0,.sl .nil 2 [],.int .i64 0,.sl .nil 3 []] [(0,1,.k (.sc (.int .i64 4))),(1,1,.k (.sc (.int .i64 5))),(2,1,.k (.sc (.int .i64 3))),(4,4,.t 5),(9,1,.k (.sc (.int .i64 2))),(10,1,.t 6)]),
 J 5 (.store 11 (.t 2) (.t 7))] false [2])
 (.ret))),false⟩
def e5T:AC :=
 (.seq (.region 0 [
 I 0 23 (oB .lss 22 21)] false [1,2,4,5,20,21,22,23])
 (.seq (.cond (.t 23)
 (.skip)
 (.exit 0))
 (.seq (.block 1 (.seq (.region 1 [
 M 0 24 22,
 I 1 25 (oI 3 20 22),
 I 2 26 (oS 3 25),
 I 3 7 (.alloc 0 [.int .i64 0,.int .i64 0,.bool false]),
 M 4 6 24,
 J 5 (.store 3 (.t 7) (.t 26))] false [1,2,4,5,6,7,20,21,22])
 (.seq (.region 0 [
 M 0 27 1,
 M 1 28 6,
 I 2 29 (o2 76 27 28),
 I 3 30 (oU .not 29)] false [1,2,4,5,7,20,21,22,30])
 (.cond (.t 30)
 (.region 0 [
 I 0 31 (oF 0 5),
 I 1 32 (oF 10 31),
 I 2 33 (.loadT (.t 32)),
 I 3 34 (oS 3 7),
 I 4 35 (.bslice 3 1 [.int .i64 0,.int .i64 0,.bool false] [(0,.t 34)]),
 I 5 36 (.append 3 (.tk 33) (.t 35)),
 I 6 37 (oF 0 5),
 I 7 38 (oF 10 37),
 J 8 (.store 1 (.t 38) (.tk 36))] false [1,2,4,5,20,21,22])
 (.skip)))))
 (.region 0 [
 I 0 39 (oK .add 22 1),
 M 1 22 39] false [1,2,4,5,20,21,22]))))
def e8y:AC:=.loop [1,2,4,5,20,21,22] e5T
def e5V:AC :=
 (.seq (.seq (.region 0 [
 M 0 49 10,
 I 1 50 (oF 1 2),
 I 2 51 (oL 50),
 I 3 52 (oB .lss 49 51)] false [2,4,5,9,10,41,42,43,52])
 (.cond (.t 52)
 (.skip)
 (.exit 4)))
 (.seq (.block 5 (.region 0 [
 I 0 55 (oF 11 5),
 I 1 56 (oL 55),
 I 2 57 (oF 0 9),
 I 3 58 (oL 57),
 M 4 59 10,
 I 5 60 (.build [.int .i64 0,.int .i64 0] [(0,1,.t 58),(1,1,.t 59)]),
 J 6 (.mupd ⟨true,[1,1]⟩ (.t 56) (.t 60) (kB true))] false [2,4,5,9,10,41,42,43]))
 (.region 0 [
 M 0 53 10,
 I 1 54 (oK .add 53 1),
 M 2 10 54] false [2,4,5,9,10,41,42,43])))
def e8A:AC:=.loop [2,4,5,9,10,41,42,43] e5V
def e5U:AC :=
 (.seq (.region 0 [
 I 0 44 (oB .lss 43 42)] false [2,4,5,41,42,43,44])
 (.seq (.cond (.t 44)
 (.skip)
 (.exit 2))
 (.seq (.block 3 (.seq (.region 1 [
 I 0 45 (oI 2 41 43),
 I 1 46 (oS 2 45),
 I 2 9 (.alloc 0 [.int .i64 0,.int .i64 0]),
 J 3 (.store 2 (.t 9) (.t 46))] false [2,4,5,9,41,42,43])
 (.seq (.region 0 [
 I 0 47 (oF 1 9),
 I 1 48 (oL 47),
 M 2 10 48] false [2,4,5,9,10,41,42,43])
 (.block 4 (e8A)))))
 (.region 0 [
 I 0 61 (oK .add 43 1),
 M 1 43 61] false [2,4,5,41,42,43]))))
def e8z:AC:=.loop [2,4,5,41,42,43] e5U
def e6O:AC :=
 (.region 1 [
 I 0 11 (.alloc 0 [.int .i64 0,.int .i64 0,.int .i64 0,.int .i64 0,.int .i64 0,.int .i64 0,.int .i64 0,.int .i64 0,.int .i64 0]),
 J 1 (.store 9 (.t 11) (.t 64))] false [5,11])
def e6P:AC :=
 (.block 7 (.region 0 [
 I 0 65 (oF 12 5),
 I 1 66 (.loadT (.t 65)),
 I 2 67 (oS 9 11),
 I 3 68 (.bslice 9 1 [.int .i64 0,.int .i64 0,.int .i64 0,.int .i64 0,.int .i64 0,.int .i64 0,.int .i64 0,.int .i64 0,.int .i64 0] [(0,.t 67)]),
 I 4 69 (.append 9 (.tk 66) (.t 68)),
 I 5 70 (oF 12 5),
 J 6 (.store 1 (.t 70) (.tk 69))] false []))
def e7b:Fn:=⟨2,72,[(4,some (some 13))],
 (.seq (.region 2 [
 I 0 2 (.box 0 (.t 0)),
 I 1 4 (.alloc 1 [.int .i64 0,.int .i64 0,.int .i64 0,.int .i64 0,.int .i64 0,.int .i64 0,.int .i64 0,.int .i64 0,.sl .nil 2 [],.int .i64 0,.sl .nil 3 [],.imap true false [],.sl .nil 9 []])] false [1,2,4])
 (.seq (.region 2 [
 I 0 12 (oS 11 2),
 ⟨1,some 13,.mkmap 0 true false,none,[0]⟩,
 ⟨2,some 14,.load (some 2) (.g 8),none,[1]⟩,
 ⟨3,none,.mupd ⟨true,[1,1]⟩ (.t 13) (.t 14) (kB true),none,[0]⟩,
 M 4 15 13,
 I 5 16 (.build [.int .i64 0,.int .i64 0,.int .i64 0,.int .i64 0,.int .i64 0,.int .i64 0,.int .i64 0,.int .i64 0,.sl .nil 2 [],.int .i64 0,.sl .nil 3 [],.imap true false [],.sl .nil 9 []] [(0,11,.t 12),(11,1,.t 15)]),
 ⟨6,some 5,.alloc 1 [.int .i64 0,.int .i64 0,.int .i64 0,.int .i64 0,.int .i64 0,.int .i64 0,.int .i64 0,.int .i64 0,.sl .nil 2 [],.int .i64 0,.sl .nil 3 [],.imap true false [],.sl .nil 9 []],none,[0,2,3]⟩,
 J 7 (.store 13 (.t 5) (.t 16))] true [1,2,4,5])
 (.seq (.region 0 [
 I 0 17 (oF 0 5),
 I 1 18 (oF 10 17),
 J 2 (.store 1 (.t 18) (.k (.sc (.sl .nil 3 []))))] false [1,2,4,5])
 (.seq (.seq (.region 0 [
 I 0 19 (oF 10 2),
 I 1 20 (oL 19),
 I 2 21 (oN 1 20),
 I 3 22 (.mv (kI 0))] false [1,2,4,5,20,21,22])
 (.block 0 (e8y)))
 (.seq (.seq (.region 0 [
 I 0 40 (oF 8 2),
 I 1 41 (oL 40),
 I 2 42 (oN 1 41),
 I 3 43 (.mv (kI 0))] false [2,4,5,41,42,43])
 (.block 2 (e8z)))
 (.seq (.frzc 5 (.seq (.region 0 [
 I 0 62 (oS 13 5),
 I 1 63 (o1 313 62)] false [4,5,63])
 (.block 6 (.rfunc (.t 63) [64] e6O e6P))))
 (.seq (.region 0 [
 I 0 71 (oS 13 5),
 J 1 (.store 13 (.t 4) (.t 71))] false [4])
 (.ret)))))))),false⟩
def e7c:Fn:=⟨3,15,[(6,none)],
 (.seq (.region 0 [
 I 0 6 (.mv (kB false))] false [0,1,2])
 (.seq (.region 0 [
 M 0 7 1,
 M 1 8 0,
 I 2 9 (oB .leq 7 8),
 M 3 10 9,
 Y 4 11 10 (oM 0),
 Y 5 12 10 (oM 2),
 Y 6 13 10 (oB .leq 11 12),
 I 7 14 (oA 10 13),
 M 8 6 14] false [6])
 (.ret))),false⟩
def e5m:Fn:=⟨1,26,[(2,none)],
 (.seq (.region 1 [
 I 0 1 (.box 0 (.t 0)),
 I 1 2 (.mv (kB false))] false [1])
 (.seq (.region 0 [
 I 0 3 (oF 0 1),
 I 1 4 (oL 3),
 I 2 5 (.bin .leq (kI 1) (.t 4)),
 M 3 6 5,
 Y 4 7 6 (oF 0 1),
 Y 5 8 6 (oL 7),
 Y 6 9 6 (oF 1 1),
 Y 7 10 6 (oL 9),
 Y 8 11 6 (oB .leq 8 10),
 I 9 12 (oA 6 11),
 M 10 13 12,
 Y 11 14 13 (oF 1 1),
 Y 12 15 13 (oL 14),
 Y 13 16 13 (oK .leq 15 3),
 I 14 17 (oA 13 16),
 M 15 18 17,
 Y 16 19 18 (oF 1 1),
 Y 17 20 18 (oL 19),
 Y 18 21 18 (oF 0 1),
 Y 19 22 18 (oL 21),
 Y 20 23 18 (oB .sub 20 22),
 Y 21 24 18 (oK .leq 23 1),
 I 22 25 (oA 18 24),
 M 23 2 25] false [2])
 (.ret))),false⟩
def e4A:Fn:=⟨2,9,[(4,none)],
 (.seq (.region 0 [
 I 0 4 (.mv (kB false))] false [0,1])
 (.seq (.region 0 [
 M 0 5 0,
 M 1 6 1,
 I 2 7 (o2 315 5 6),
 I 3 8 (oK .geq 7 0),
 M 4 4 8] false [4])
 (.ret))),false⟩
def e6T:Fn:=⟨2,9,[(3,none)],
 (.seq (.region 1 [
 I 0 2 (.box 0 (.t 0)),
 I 1 3 (.mv (kB false))] false [1,2])
 (.seq (.region 0 [
 I 0 4 (oF 0 2),
 I 1 5 (oL 4),
 I 2 6 (oF 0 1),
 I 3 7 (oL 6),
 I 4 8 (oB .eql 5 7),
 M 5 3 8] false [3])
 (.ret))),false⟩
def e5x:AC :=
 (.seq (.region 0 [
 I 0 25 (oB .lss 24 23)] false [1,2,3,4,17,18,22,23,24,25])
 (.seq (.cond (.t 25)
 (.skip)
 (.exit 2))
 (.seq (.block 3 (.seq (.region 0 [
 M 0 26 24,
 I 1 27 (oI 1 22 24),
 I 2 28 (oL 27),
 M 3 5 26,
 M 4 6 28] false [1,2,3,4,5,6,17,18,22,23,24])
 (.seq (.region 0 [
 I 0 30 (oF 0 1),
 I 1 31 (oS 11 30),
 M 2 32 6,
 M 3 33 4,
 I 4 34 (o3 257 31 32 33),
 M 5 29 34,
 I 6 35 (oE 29 0),
 I 7 36 (oE 29 1),
 M 8 7 35,
 M 9 8 36] false [1,2,3,4,5,7,17,18,22,23,24])
 (.region 0 [
 I 0 37 (oF 23 3),
 I 1 38 (oL 37),
 M 2 39 5,
 M 3 40 4,
 I 4 41 (.build [.int .i64 0,.int .i64 0] [(0,1,.t 39),(1,1,.t 40)]),
 M 5 42 7,
 I 6 43 (oK .gtr 42 0),
 J 7 (.mupd ⟨true,[1,1]⟩ (.t 38) (.t 41) (.t 43))] false [1,2,3,4,17,18,22,23,24]))))
 (.region 0 [
 I 0 44 (oK .add 24 1),
 M 1 24 44] false [1,2,3,4,17,18,22,23,24]))))
def e7X:AC:=.loop [1,2,3,4,17,18,22,23,24] e5x
def e5w:AC :=
 (.seq (.region 0 [
 I 0 19 (oB .lss 18 17)] false [1,2,3,17,18,19])
 (.seq (.cond (.t 19)
 (.skip)
 (.exit 0))
 (.seq (.block 1 (.seq (.region 0 [
 M 0 20 18,
 M 1 4 20] false [1,2,3,4,17,18])
 (.seq (.region 0 [
 I 0 21 (oF 21 1),
 I 1 22 (oL 21),
 I 2 23 (oN 1 22),
 I 3 24 (.mv (kI 0))] false [1,2,3,4,17,18,22,23,24])
 (.block 2 (e7X)))))
 (.region 0 [
 I 0 45 (oK .add 18 1),
 M 1 18 45] false [1,2,3,17,18]))))
def e7W:AC:=.loop [1,2,3,17,18] e5w
def e6Z:Fn:=⟨1,47,[(2,some (some 24))],
 (.seq (.region 2 [
 I 0 1 (.box 0 (.t 0)),
 I 1 2 (.alloc 1 [.int .i64 0,.int .i64 0,.int .i64 0,.int .i64 0,.int .i64 0,.int .i64 0,.int .i64 0,.int .i64 0,.sl .nil 2 [],.int .i64 0,.sl .nil 3 [],.sl .nil 2 [],.int .i64 0,.int .i64 0,.int .i64 0,.int .i64 0,.int .i64 0,.int .i64 0,.sl .nil 3 [],.sl .nil 2 [],.sl .nil 4 [],.sl .nil 1 [],.sl .nil 3 [],.imap true false []])] false [1,2])
 (.seq (.region 2 [
 I 0 9 (oS 23 1),
 ⟨1,some 10,.mkmap 0 true false,none,[0]⟩,
 ⟨2,some 11,.load (some 2) (.g 9),none,[1]⟩,
 ⟨3,none,.mupd ⟨true,[1,1]⟩ (.t 10) (.t 11) (kB false),none,[0]⟩,
 M 4 12 10,
 I 5 13 (.build [.int .i64 0,.int .i64 0,.int .i64 0,.int .i64 0,.int .i64 0,.int .i64 0,.int .i64 0,.int .i64 0,.sl .nil 2 [],.int .i64 0,.sl .nil 3 [],.sl .nil 2 [],.int .i64 0,.int .i64 0,.int .i64 0,.int .i64 0,.int .i64 0,.int .i64 0,.sl .nil 3 [],.sl .nil 2 [],.sl .nil 4 [],.sl .nil 1 [],.sl .nil 3 [],.imap true false []] [(0,23,.t 9),(23,1,.t 12)]),
 ⟨6,some 3,.alloc 1 [.int .i64 0,.int .i64 0,.int .i64 0,.int .i64 0,.int .i64 0,.int .i64 0,.int .i64 0,.int .i64 0,.sl .nil 2 [],.int .i64 0,.sl .nil 3 [],.sl .nil 2 [],.int .i64 0,.int .i64 0,.int .i64 0,.int .i64 0,.int .i64 0,.int .i64 0,.sl .nil 3 [],.sl .nil 2 [],.sl .nil 4 [],.sl .nil 1 [],.sl .nil 3 [],.imap true false []],none,[0,2,3]⟩,
 J 7 (.store 24 (.t 3) (.t 13))] true [1,2,3])
 (.seq (.seq (.region 0 [
 I 0 14 (oF 11 1),
 I 1 15 (oF 7 14),
 I 2 16 (oL 15),
 I 3 17 (oN 1 16),
 I 4 18 (.mv (kI 0))] false [1,2,3,17,18])
 (.block 0 (e7W)))
 (.frzc 3 (.seq (.region 0 [
 I 0 46 (oS 24 3),
 J 1 (.store 24 (.t 2) (.t 46))] false [2])
 (.ret)))))),false⟩
def e5l:Fn:=⟨1,11,[],
 (.seq (.region 0 [
 M 0 3 0,
 I 1 4 (oN 1 3),
 M 2 2 4] false [0,2])
 (.region 0 [
 M 0 5 0,
 M 1 6 2,
 M 2 7 2,
 I 3 8 (.conv .u64 (.t 7)),
 I 4 9 (o1 161 8),
 I 5 10 (.call false (.f 319) [.t 5,.k (.sc (.int .i64 0)),.t 6,.t 9])] false [])),false⟩
def e5f:Fn:=⟨2,34,[(4,none)],
 (.seq (.region 2 [
 I 0 2 (.box 0 (.t 0)),
 I 1 3 (.box 1 (.t 1)),
 I 2 4 (.mv (kB false))] false [2,3])
 (.seq (.region 0 [
 I 0 7 (.iarr 2 1 (.g 5) (kI 0)),
 I 1 8 (oL 7),
 I 2 9 (oS 27 2),
 I 3 10 (.call true (.t 8) [.t 9]),
 I 4 11 (.iarr 2 1 (.g 5) (kI 0)),
 I 5 12 (oL 11),
 I 6 13 (oS 27 3),
 I 7 14 (.call true (.t 12) [.t 13]),
 M 8 5 10,
 M 9 6 14] true [2,3,5,6])
 (.seq (.region 0 [
 M 0 15 5,
 M 1 16 6,
 I 2 17 (oB .gtr 15 16),
 M 3 18 17,
 U 4 19 18 (oM 5),
 U 5 20 18 (oM 6),
 U 6 21 18 (oB .eql 19 20),
 U 7 22 18 (oM 21),
 Y 8 23 22 (.iarr 2 1 (.g 5) (kI 1)),
 Y 9 24 22 (oL 23),
 Y 10 25 22 (oS 27 2),
 Y 11 26 22 (.call true (.t 24) [.t 25]),
 Y 12 27 22 (.iarr 2 1 (.g 5) (kI 1)),
 Y 13 28 22 (oL 27),
 Y 14 29 22 (oS 27 3),
 Y 15 30 22 (.call true (.t 28) [.t 29]),
 Y 16 31 22 (oB .lss 26 30),
 U 17 32 18 (oA 22 31),
 I 18 33 (oO 18 32),
 M 19 4 33] true [4])
 (.ret)))),false⟩
def e5F:Fn:=⟨2,8,[],
 (.seq (.region 1 [
 I 0 2 (.box 0 (.t 0))] false [1,2])
 (.seq (.region 1 [
 I 0 3 (.alloc 0 [.nilf])] false [1,2,3])
 (.seq (.region 0 [
 I 0 4 (.mkf 320 [] [] [.t 1,.t 2,.t 3]),
 J 1 (.store 1 (.t 3) (.t 4))] false [3])
 (.region 0 [
 I 0 5 (oL 3),
 I 1 6 (.load (some 3) (.g 6)),
 I 2 7 (.call false (.t 5) [.t 6,.k (.sc (.int .i64 0))])] false [])))),false⟩
def e4L:AC :=
 (.seq (.seq (.region 0 [
 M 0 35 9,
 I 1 36 (oF 1 8),
 I 2 37 (oL 36),
 I 3 38 (oB .leq 35 37)] false [1,4,5,8,9,38])
 (.cond (.t 38)
 (.skip)
 (.exit 0)))
 (.seq (.block 1 (.seq (.seq (.region 0 [
 M 0 41 1,
 I 1 42 (.slArr 3 1 (.t 5) none (some (.t 41)) none),
 M 2 43 9,
 I 3 44 (.call false (.f 362) [.t 42,.t 43])] false [1,4,5,8,9,44])
 (.cond (.t 44)
 (.exit 1)
 (.skip)))
 (.seq (.region 0 [
 M 0 45 1,
 M 1 46 9,
 I 2 47 (.iarr 3 1 (.t 5) (.t 45)),
 J 3 (.store 1 (.t 47) (.t 46))] false [1,4,5,8,9])
 (.seq (.region 0 [
 I 0 48 (oL 4),
 I 1 49 (oS 3 5),
 M 2 50 1,
 I 3 51 (oK .add 50 1),
 I 4 52 (.call false (.t 48) [.t 49,.t 51]),
 I 5 53 (oU .not 52)] false [1,4,5,8,9,53])
 (.cond (.t 53)
 (.seq (.region 0 [
 I 0 7 (.mv (kB false))] false [7])
 (.ret))
 (.skip))))))
 (.region 0 [
 M 0 39 9,
 I 1 40 (oK .add 39 1),
 M 2 9 40] false [1,4,5,8,9])))
def e7k:AC:=.loop [1,4,5,8,9] e4L
def e4K:Fn:=⟨5,61,[(7,none)],
 (.seq (.region 1 [
 I 0 5 (.box 0 (.t 0)),
 I 1 7 (.mv (kB false))] false [1,2,3,4,5])
 (.seq (.seq (.region 0 [
 M 0 10 1,
 I 1 11 (oF 0 2),
 I 2 12 (oF 22 11),
 I 3 13 (oL 12),
 I 4 14 (oN 1 13),
 I 5 15 (oB .eql 10 14)] false [1,2,3,4,5,15])
 (.cond (.t 15)
 (.seq (.region 0 [
 I 0 16 (oS 24 2),
 I 1 17 (oS 3 5),
 I 2 18 (o2 283 16 17),
 I 3 19 (oU .not 18),
 M 4 20 19,
 U 5 21 20 (oL 3),
 U 6 22 20 (oS 3 5),
 U 7 23 20 (oS 24 2),
 U 8 24 20 (.build [.int .i64 0,.int .i64 0,.int .i64 0,.int .i64 0,.int .i64 0,.int .i64 0,.int .i64 0,.int .i64 0,.int .i64 0,.int .i64 0,.int .i64 0,.sl .nil 2 [],.int .i64 0,.sl .nil 3 [],.sl .nil 2 [],.int .i64 0,.int .i64 0,.int .i64 0,.int .i64 0,.int .i64 0,.int .i64 0,.sl .nil 3 [],.sl .nil 2 [],.sl .nil 4 [],.sl .nil 1 [],.sl .nil 3 [],.imap true false []] [(0,3,.t 22),(3,24,.t 23)]),
 U 9 25 20 (.call false (.t 21) [.t 24]),
 I 10 26 (oO 20 25),
 M 11 7 26] false [7])
 (.ret))
 (.skip)))
 (.seq (.region 1 [
 I 0 27 (oF 0 2),
 I 1 28 (oF 22 27),
 I 2 29 (oL 28),
 M 3 30 1,
 I 4 31 (oI 3 29 30),
 I 5 32 (oS 3 31),
 I 6 8 (.alloc 0 [.int .i64 0,.int .i64 0,.int .i64 0]),
 J 7 (.store 3 (.t 8) (.t 32))] false [1,4,5,8])
 (.seq (.seq (.region 0 [
 I 0 33 (oF 0 8),
 I 1 34 (oL 33),
 M 2 9 34] false [1,4,5,8,9])
 (.block 0 (e7k)))
 (.seq (.region 0 [
 M 0 54 1,
 I 1 55 (.iarr 3 1 (.t 5) (.t 54)),
 J 2 (.store 1 (.t 55) (kI 9))] false [1,4,5])
 (.seq (.region 0 [
 I 0 56 (oL 4),
 I 1 57 (oS 3 5),
 M 2 58 1,
 I 3 59 (oK .add 58 1),
 I 4 60 (.call false (.t 56) [.t 57,.t 59]),
 M 5 7 60] false [7])
 (.ret))))))),false⟩
def e6o:Fn:=⟨1,4,[(2,none)],
 (.seq (.region 1 [
 I 0 1 (.box 0 (.t 0)),
 I 1 2 (.mv (.k (.sc .nilf)))] false [1])
 (.frz 1 (.seq (.region 0 [
 I 0 3 (.mkf 321 [] [] [.t 1]),
 M 1 2 3] false [2])
 (.ret)))),false⟩
def e4w:AC :=
 (.seq (.region 0 [
 I 0 9 (oB .lss 8 7)] false [0,1,7,8,9])
 (.seq (.cond (.t 9)
 (.skip)
 (.exit 0))
 (.seq (.block 1 (.seq (.region 0 [
 M 0 10 8,
 M 1 5 10] false [0,1,5,7,8])
 (.seq (.region 0 [
 M 0 11 1,
 M 1 12 0,
 M 2 13 5,
 I 3 14 (oI 2 12 13),
 I 4 15 (oS 2 14),
 I 5 16 (.call true (.t 11) [.t 15])] false [0,1,5,7,8,16])
 (.cond (.t 16)
 (.seq (.region 0 [
 M 0 17 5,
 M 1 4 17] false [4])
 (.ret))
 (.skip)))))
 (.region 0 [
 I 0 18 (oK .add 8 1),
 M 1 8 18] false [0,1,7,8]))))
def e6f:AC:=.loop [0,1,7,8] e4w
def e4C:Fn:=⟨2,19,[(4,none)],
 (.seq (.region 0 [
 I 0 4 (.mv (kI 0))] false [0,1])
 (.seq (.seq (.region 0 [
 M 0 6 0,
 I 1 7 (oN 1 6),
 I 2 8 (.mv (kI 0))] false [0,1,7,8])
 (.block 0 (e6f)))
 (.seq (.region 0 [
 I 0 4 (.mv (kI (-1)))] false [4])
 (.ret)))),false⟩
def e6B:AC :=
 (.block 1 (.seq (.region 0 [
 M 0 19 2,
 M 1 20 1,
 I 2 21 (oB .sub 19 20),
 M 3 10 21] false [0,1,2,3,8,9,10])
 (.seq (.seq (.region 0 [
 M 0 22 10,
 I 1 23 (oK .leq 22 12)] false [0,1,2,3,8,9,10,23])
 (.cond (.t 23)
 (.seq (.region 0 [
 M 0 24 0,
 M 1 25 1,
 M 2 26 2,
 I 3 27 (.call false (.f 324) [.t 24,.t 25,.t 26])] false [])
 (.ret))
 (.skip)))
 (.seq (.seq (.region 0 [
 M 0 28 3,
 I 1 29 (oK .eql 28 0)] false [0,1,2,3,8,9,10,29])
 (.cond (.t 29)
 (.seq (.region 0 [
 M 0 30 0,
 M 1 31 1,
 M 2 32 2,
 I 3 33 (.call false (.f 325) [.t 30,.t 31,.t 32])] false [])
 (.ret))
 (.skip)))
 (.seq (.seq (.region 0 [
 M 0 34 8,
 I 1 35 (oU .not 34)] false [0,1,2,3,8,9,10,35])
 (.cond (.t 35)
 (.seq (.region 0 [
 M 0 36 0,
 M 1 37 1,
 M 2 38 2,
 I 3 39 (.call false (.f 326) [.t 36,.t 37,.t 38])] false [0,1,2,3,8,9,10])
 (.region 0 [
 M 0 40 3,
 I 1 41 (oK .sub 40 1),
 M 2 3 41] false [0,1,2,3,8,9,10]))
 (.skip)))
 (.seq (.region 0 [
 M 0 43 0,
 M 1 44 1,
 M 2 45 2,
 I 3 46 (.call false (.f 327) [.t 43,.t 44,.t 45]),
 M 4 42 46,
 I 5 47 (oE 42 0),
 I 6 48 (oE 42 1),
 M 7 11 47,
 M 8 12 48] false [0,1,2,3,8,9,10,11,12])
 (.seq (.seq (.region 0 [
 M 0 49 12,
 I 1 50 (oK .eql 49 2)] false [0,1,2,3,8,9,10,11,12,50])
 (.cond (.t 50)
 (.seq (.region 0 [
 M 0 51 0,
 M 1 52 1,
 M 2 53 2,
 I 3 54 (.call false (.f 328) [.t 51,.t 52,.t 53])] false [0,1,2,3,8,9,10,11])
 (.seq (.region 0 [
 M 0 55 2,
 I 1 56 (oK .sub 55 1),
 M 2 57 11,
 M 3 58 1,
 I 4 59 (oB .sub 57 58),
 I 5 60 (oB .sub 56 59),
 M 6 11 60] false [0,1,2,3,8,9,10,11])
 (.region 0 [
 I 0 12 (.mv (kI 1))] false [0,1,2,3,8,9,10,11,12])))
 (.skip)))
 (.seq (.seq (.region 0 [
 M 0 61 8,
 M 1 62 61,
 Y 2 63 62 (oM 9),
 I 3 64 (oA 62 63),
 M 4 65 64,
 Y 5 66 65 (oM 12),
 Y 6 67 65 (oK .eql 66 1),
 I 7 68 (oA 65 67)] false [0,1,2,3,8,9,10,11,68])
 (.cond (.t 68)
 (.seq (.region 0 [
 M 0 69 0,
 M 1 70 1,
 M 2 71 2,
 I 3 72 (.call false (.f 329) [.t 69,.t 70,.t 71])] false [0,1,2,3,8,9,10,11,72])
 (.cond (.t 72)
 (.ret)
 (.skip)))
 (.skip)))
 (.seq (.seq (.region 0 [
 M 0 73 1,
 I 1 74 (oK .gtr 73 0),
 M 2 75 74,
 Y 3 76 75 (oM 0),
 Y 4 77 75 (oM 1),
 Y 5 78 75 (oK .sub 77 1),
 Y 6 79 75 (oI 1 76 78),
 Y 7 80 75 (oL 79),
 Y 8 81 75 (oM 0),
 Y 9 82 75 (oM 11),
 Y 10 83 75 (oI 1 81 82),
 Y 11 84 75 (oL 83),
 Y 12 85 75 (o2 330 80 84),
 Y 13 86 75 (oU .not 85),
 I 14 87 (oA 75 86)] true [0,1,2,3,8,9,10,11,87])
 (.cond (.t 87)
 (.seq (.region 0 [
 M 0 88 0,
 M 1 89 1,
 M 2 90 2,
 M 3 91 11,
 I 4 92 (.call false (.f 331) [.t 88,.t 89,.t 90,.t 91]),
 M 5 13 92] false [0,2,3,8,9,13])
 (.seq (.region 0 [
 M 0 93 13,
 M 1 1 93] false [0,1,2,3,8,9])
 (.exit 1)))
 (.skip)))
 (.seq (.region 0 [
 M 0 95 0,
 M 1 96 1,
 M 2 97 2,
 M 3 98 11,
 I 4 99 (.call false (.f 332) [.t 95,.t 96,.t 97,.t 98]),
 M 5 94 99,
 I 6 100 (oE 94 0),
 I 7 101 (oE 94 1),
 M 8 14 100,
 M 9 15 101] false [0,1,2,3,10,14,15])
 (.seq (.region 0 [
 M 0 102 15,
 M 1 9 102] false [0,1,2,3,9,10,14])
 (.seq (.region 0 [
 M 0 103 14,
 M 1 104 1,
 I 2 105 (oB .sub 103 104),
 M 3 106 2,
 M 4 107 14,
 I 5 108 (oB .sub 106 107),
 M 6 16 105,
 M 7 17 108] false [0,1,2,3,9,10,14,16,17])
 (.seq (.region 0 [
 M 0 109 10,
 I 1 110 (oK .quo 109 8),
 M 2 18 110] false [0,1,2,3,9,14,16,17,18])
 (.seq (.region 0 [
 M 0 111 16,
 M 1 112 17,
 I 2 113 (oB .lss 111 112)] false [0,1,2,3,9,14,16,17,18,113])
 (.cond (.t 113)
 (.seq (.region 0 [
 M 0 114 16,
 M 1 115 18,
 I 2 116 (oB .geq 114 115),
 M 3 8 116] false [0,1,2,3,8,9,14])
 (.seq (.region 0 [
 M 0 117 0,
 M 1 118 1,
 M 2 119 14,
 M 3 120 3,
 I 4 121 (.call false (.f 319) [.t 117,.t 118,.t 119,.t 120])] false [0,2,3,8,9,14])
 (.region 0 [
 M 0 122 14,
 I 1 123 (oK .add 122 1),
 M 2 1 123] false [0,1,2,3,8,9])))
 (.seq (.region 0 [
 M 0 124 17,
 M 1 125 18,
 I 2 126 (oB .geq 124 125),
 M 3 8 126] false [0,1,2,3,8,9,14])
 (.seq (.region 0 [
 M 0 127 0,
 M 1 128 14,
 I 2 129 (oK .add 128 1),
 M 3 130 2,
 M 4 131 3,
 I 5 132 (.call false (.f 319) [.t 127,.t 129,.t 130,.t 131])] false [0,1,3,8,9,14])
 (.region 0 [
 M 0 133 14,
 M 1 2 133] false [0,1,2,3,8,9]))))))))))))))))))
def e6C:AC:=.loop [0,1,2,3,8,9] e6B
def e5P:Fn:=⟨4,134,[],
 (.seq (.region 0 [
 I 0 8 (.mv (kB true))] false [0,1,2,3,8])
 (.seq (.region 0 [
 I 0 9 (.mv (kB true))] false [0,1,2,3,8,9])
 (.block 0 (e6C)))),false⟩
def e5a:AC :=
 (.seq (.seq (.region 0 [
 M 0 63 8,
 I 1 64 (oF 0 1),
 I 2 65 (oF 4 64),
 I 3 66 (.iarr 2 2 (.t 65) (kI 1)),
 I 4 67 (oF 1 66),
 I 5 68 (oL 67),
 I 6 69 (oB .leq 63 68)] false [0,1,3,4,6,7,8,14,15,28,29,69])
 (.cond (.t 69)
 (.skip)
 (.exit 6)))
 (.seq (.block 7 (.seq (.region 1 [
 I 0 72 (oS 2 6),
 M 1 73 7,
 M 2 74 8,
 I 3 75 (.build [.int .i64 0,.int .i64 0,.int .i64 0,.int .i64 0,.int .i64 0,.int .i64 0,.int .i64 0,.int .i64 0,.int .i64 0] [(0,2,.t 72),(2,1,.t 73),(3,1,.t 74)]),
 I 4 9 (.alloc 0 [.int .i64 0,.int .i64 0,.int .i64 0,.int .i64 0,.int .i64 0,.int .i64 0,.int .i64 0,.int .i64 0,.int .i64 0]),
 J 5 (.store 9 (.t 9) (.t 75))] false [0,1,3,4,6,7,8,9,14,15,28,29])
 (.seq (.region 0 [
 I 0 76 (oS 13 1),
 I 1 77 (oS 9 9),
 I 2 78 (o2 334 76 77),
 I 3 79 (oF 4 9),
 J 4 (.store 5 (.t 79) (.t 78))] false [0,1,3,4,6,7,8,9,14,15,28,29])
 (.seq (.region 0 [
 I 0 80 (oF 4 9),
 I 1 81 (oS 5 80),
 I 2 82 (.load (some 5) (.g 10)),
 I 3 83 (.eqf true ⟨true,[1,1,1,1,1]⟩ (.t 81) (.t 82)),
 M 4 84 83,
 Y 5 85 84 (oM 3),
 Y 6 86 84 (oS 9 9),
 Y 7 87 84 (.call true (.t 85) [.t 86]),
 I 8 88 (oA 84 87),
 M 9 89 88,
 Y 10 90 89 (oM 0),
 Y 11 91 89 (oS 9 9),
 Y 12 92 89 (.call false (.t 90) [.t 91]),
 Y 13 93 89 (oU .not 92),
 I 14 94 (oA 89 93)] false [0,1,3,4,6,7,8,14,15,28,29,94])
 (.cond (.t 94)
 (.ret)
 (.skip))))))
 (.region 0 [
 M 0 70 8,
 I 1 71 (oK .add 70 1),
 M 2 8 71] false [0,1,3,4,6,7,8,14,15,28,29])))
def e7N:AC:=.loop [0,1,3,4,6,7,8,14,15,28,29] e5a
def e5s:AC :=
 (.seq (.seq (.region 0 [
 M 0 49 7,
 I 1 50 (oF 0 1),
 I 2 51 (oF 4 50),
 I 3 52 (.iarr 2 2 (.t 51) (kI 0)),
 I 4 53 (oF 1 52),
 I 5 54 (oL 53),
 I 6 55 (oB .leq 49 54)] false [0,1,3,4,6,7,14,15,28,29,55])
 (.cond (.t 55)
 (.skip)
 (.exit 4)))
 (.seq (.block 5 (.seq (.region 0 [
 I 0 58 (oF 0 1),
 I 1 59 (oF 4 58),
 I 2 60 (.iarr 2 2 (.t 59) (kI 1)),
 I 3 61 (oF 0 60),
 I 4 62 (oL 61),
 M 5 8 62] false [0,1,3,4,6,7,8,14,15,28,29])
 (.block 6 (e7N))))
 (.region 0 [
 M 0 56 7,
 I 1 57 (oK .add 56 1),
 M 2 7 57] false [0,1,3,4,6,7,14,15,28,29])))
def e7M:AC:=.loop [0,1,3,4,6,7,14,15,28,29] e5s
def e4Z:AC :=
 (.seq (.region 0 [
 I 0 30 (oB .lss 29 28)] false [0,1,3,4,14,15,28,29,30])
 (.seq (.cond (.t 30)
 (.skip)
 (.exit 2))
 (.seq (.block 3 (.seq (.region 0 [
 M 0 31 29,
 M 1 5 31] false [0,1,3,4,5,14,15,28,29])
 (.seq (.region 1 [
 M 0 32 4,
 M 1 33 5,
 I 2 34 (.build [.int .i64 0,.int .i64 0] [(0,1,.t 32),(1,1,.t 33)]),
 I 3 6 (.alloc 0 [.int .i64 0,.int .i64 0]),
 J 4 (.store 2 (.t 6) (.t 34))] false [0,1,3,4,6,14,15,28,29])
 (.seq (.seq (.region 0 [
 I 0 35 (oS 2 6),
 I 1 36 (.load (some 2) (.g 8)),
 I 2 37 (.eqf false ⟨true,[1,1]⟩ (.t 35) (.t 36)),
 M 3 38 37,
 U 4 39 38 (oF 11 1),
 U 5 40 38 (oL 39),
 U 6 41 38 (oS 2 6),
 U 7 42 38 (.lookup false ⟨true,[1,1]⟩ (.sc (.bool false)) (.t 40) (.t 41)),
 I 8 43 (oO 38 42)] false [0,1,3,4,6,14,15,28,29,43])
 (.cond (.t 43)
 (.exit 3)
 (.skip)))
 (.seq (.region 0 [
 I 0 44 (oF 0 1),
 I 1 45 (oF 4 44),
 I 2 46 (.iarr 2 2 (.t 45) (kI 0)),
 I 3 47 (oF 0 46),
 I 4 48 (oL 47),
 M 5 7 48] false [0,1,3,4,6,7,14,15,28,29])
 (.block 4 (e7M)))))))
 (.region 0 [
 I 0 95 (oK .add 29 1),
 M 1 29 95] false [0,1,3,4,14,15,28,29]))))
def e7L:AC:=.loop [0,1,3,4,14,15,28,29] e4Z
def e4Y:AC :=
 (.seq (.region 0 [
 I 0 16 (oB .lss 15 14)] false [0,1,3,14,15,16])
 (.seq (.cond (.t 16)
 (.skip)
 (.exit 0))
 (.seq (.block 1 (.seq (.region 0 [
 M 0 17 15,
 M 1 4 17] false [0,1,3,4,14,15])
 (.seq (.seq (.region 0 [
 I 0 18 (oF 0 1),
 I 1 19 (oF 2 18),
 I 2 20 (oL 19),
 M 3 21 4,
 I 4 22 (oB .shr 20 21),
 I 5 23 (oK .and 22 1),
 I 6 24 (oK .eql 23 0)] false [0,1,3,4,14,15,24])
 (.cond (.t 24)
 (.exit 1)
 (.skip)))
 (.seq (.region 0 [
 I 0 25 (oF 0 1),
 I 1 26 (oF 3 25),
 I 2 27 (oL 26),
 I 3 28 (oK .add 27 1),
 I 4 29 (.mv (kI 0))] false [0,1,3,4,14,15,28,29])
 (.block 2 (e7L))))))
 (.region 0 [
 I 0 96 (oK .add 15 1),
 M 1 15 96] false [0,1,3,14,15]))))
def e7K:AC:=.loop [0,1,3,14,15] e4Y
def e5Y:Fn:=⟨2,97,[],
 (.seq (.region 0 [
 I 0 10 (oS 13 1),
 I 1 11 (.mkf 333 [some 13] [.t 10] []),
 M 2 3 11] false [0,1,3])
 (.seq (.region 0 [
 I 0 12 (oF 0 1),
 I 1 13 (oF 0 12),
 I 2 14 (oL 13),
 I 3 15 (.mv (kI 0))] false [0,1,3,14,15])
 (.block 0 (e7K)))),false⟩
def e6n:Fn:=⟨2,11,[(4,none)],
 (.seq (.region 2 [
 I 0 2 (.box 0 (.t 0)),
 I 1 3 (.box 1 (.t 1)),
 I 2 4 (.mv (kB false))] false [2,3])
 (.frz 3 (.seq (.region 0 [
 I 0 5 (oF 0 2),
 I 1 6 (oF 10 5),
 I 2 7 (oL 6),
 I 3 8 (.mkf 335 [] [] [.t 3]),
 I 4 9 (o2 336 7 8),
 I 5 10 (oU .not 9),
 M 6 4 10] false [4])
 (.ret)))),false⟩
def e6i:Fn:=⟨2,23,[(4,some (some 5))],
 (.seq (.region 3 [
 I 0 2 (.box 0 (.t 0)),
 I 1 3 (.box 1 (.t 1)),
 I 2 4 (.alloc 2 [.int .i64 0,.int .i64 0,.int .i64 0,.int .i64 0,.int .i64 0])] false [2,3,4])
 (.frz 2 (.frz 3 (.seq (.region 1 [
 I 0 7 (.load (some 5) (.g 10)),
 I 1 5 (.alloc 0 [.int .i64 0,.int .i64 0,.int .i64 0,.int .i64 0,.int .i64 0]),
 J 2 (.store 5 (.t 5) (.t 7))] false [2,3,4,5])
 (.seq (.region 0 [
 I 0 8 (oF 0 3),
 I 1 9 (oF 0 8),
 I 2 10 (oL 9),
 I 3 11 (oF 0 3),
 I 4 12 (oF 1 11),
 I 5 13 (oL 12),
 I 6 14 (.iarr 5 1 (.t 5) (.t 10)),
 J 7 (.store 1 (.t 14) (.t 13))] false [2,3,4,5])
 (.seq (.region 1 [
 I 0 6 (.alloc 0 [.nilf])] false [2,3,4,5,6])
 (.seq (.region 0 [
 I 0 15 (.mkf 337 [] [] [.t 2,.t 3,.t 6]),
 J 1 (.store 1 (.t 6) (.t 15))] false [3,4,5,6])
 (.seq (.region 0 [
 I 0 16 (oL 6),
 I 1 17 (oS 5 5),
 I 2 18 (oF 0 3),
 I 3 19 (oF 1 18),
 I 4 20 (oL 19),
 I 5 21 (oK .add 20 1),
 I 6 22 (.call false (.t 16) [.t 17,.t 21]),
 J 7 (.store 5 (.t 4) (.t 22))] false [4])
 (.ret))))))))),false⟩
def e4z:AC :=
 (.seq (.seq (.region 0 [
 M 0 16 7,
 M 1 17 1,
 I 2 18 (oB .gtr 16 17),
 M 3 19 18,
 Y 4 20 19 (oM 0),
 Y 5 21 19 (oM 7),
 Y 6 22 19 (oI 1 20 21),
 Y 7 23 19 (oL 22),
 Y 8 24 19 (oM 0),
 Y 9 25 19 (oM 7),
 Y 10 26 19 (oK .sub 25 1),
 Y 11 27 19 (oI 1 24 26),
 Y 12 28 19 (oL 27),
 Y 13 29 19 (o2 330 23 28),
 I 14 30 (oA 19 29)] true [0,1,2,6,7,30])
 (.cond (.t 30)
 (.skip)
 (.exit 2)))
 (.seq (.block 3 (.region 0 [
 M 0 33 0,
 M 1 34 7,
 M 2 35 0,
 M 3 36 7,
 I 4 37 (oK .sub 36 1),
 M 5 38 0,
 M 6 39 7,
 I 7 40 (oK .sub 39 1),
 I 8 41 (oI 1 38 40),
 I 9 42 (oL 41),
 M 10 43 0,
 M 11 44 7,
 I 12 45 (oI 1 43 44),
 I 13 46 (oL 45),
 I 14 47 (oI 1 33 34),
 J 15 (.store 1 (.t 47) (.t 42)),
 I 16 48 (oI 1 35 37),
 J 17 (.store 1 (.t 48) (.t 46))] true [0,1,2,6,7]))
 (.region 0 [
 M 0 31 7,
 I 1 32 (oK .sub 31 1),
 M 2 7 32] false [0,1,2,6,7])))
def e6L:AC:=.loop [0,1,2,6,7] e4z
def e4J:AC :=
 (.seq (.seq (.region 0 [
 M 0 10 6,
 M 1 11 2,
 I 2 12 (oB .lss 10 11)] false [0,1,2,6,12])
 (.cond (.t 12)
 (.skip)
 (.exit 0)))
 (.seq (.block 1 (.seq (.region 0 [
 M 0 15 6,
 M 1 7 15] false [0,1,2,6,7])
 (.block 2 (e6L))))
 (.region 0 [
 M 0 13 6,
 I 1 14 (oK .add 13 1),
 M 2 6 14] false [0,1,2,6])))
def e6e:AC:=.loop [0,1,2,6] e4J
def e5c:Fn:=⟨3,49,[],
 (.seq (.region 0 [
 M 0 8 1,
 I 1 9 (oK .add 8 1),
 M 2 6 9] false [0,1,2,6])
 (.block 0 (e6e))),false⟩
def cmp_Less_int:Fn:=⟨2,17,[(4,none)],
 (.seq (.region 0 [
 I 0 4 (.mv (kB false))] false [0,1])
 (.seq (.region 0 [
 M 0 5 0,
 I 1 6 (o1 177 5),
 M 2 7 6,
 Y 3 8 7 (oM 1),
 Y 4 9 7 (o1 177 8),
 Y 5 10 7 (oU .not 9),
 I 6 11 (oA 7 10),
 M 7 12 11,
 U 8 13 12 (oM 0),
 U 9 14 12 (oM 1),
 U 10 15 12 (oB .lss 13 14),
 I 11 16 (oO 12 15),
 M 12 4 16] false [4])
 (.ret))),false⟩
def e4x:Fn:=⟨2,9,[(4,none)],
 (.seq (.region 0 [
 I 0 4 (.mv (kB false))] false [0,1])
 (.seq (.region 0 [
 M 0 5 0,
 M 1 6 1,
 I 2 7 (o2 342 5 6),
 I 3 8 (oK .geq 7 0),
 M 4 4 8] false [4])
 (.ret))),false⟩
def e5X:Fn:=⟨2,14,[(3,none)],
 (.seq (.region 1 [
 I 0 2 (.box 0 (.t 0)),
 I 1 3 (.mv (kB false))] false [1,2])
 (.seq (.region 0 [
 I 0 4 (oS 9 1),
 I 1 5 (oF 0 2),
 I 2 6 (oL 5),
 I 3 7 (oF 1 2),
 I 4 8 (oL 7),
 I 5 9 (.build [.int .i64 0,.int .i64 0] [(0,1,.t 6),(1,1,.t 8)]),
 I 6 10 (o2 343 4 9),
 I 7 11 (oF 2 2),
 I 8 12 (oL 11),
 I 9 13 (.eqf true ⟨false,[0]⟩ (.t 10) (.t 12)),
 M 10 3 13] true [3])
 (.ret))),false⟩
def e5q:Fn:=⟨2,24,[(4,none)],
 (.seq (.region 2 [
 I 0 2 (.box 0 (.t 0)),
 I 1 3 (.box 1 (.t 1)),
 I 2 4 (.mv (kB false))] false [2,3])
 (.seq (.region 0 [
 I 0 5 (oF 0 3),
 I 1 6 (oL 5),
 I 2 7 (oF 4 2),
 I 3 8 (.iarr 5 1 (.t 7) (.t 6)),
 I 4 9 (oL 8),
 I 5 10 (oK .geq 9 0),
 M 6 11 10,
 Y 7 12 11 (oF 1 3),
 Y 8 13 11 (oL 12),
 Y 9 14 11 (oF 0 3),
 Y 10 15 11 (oL 14),
 Y 11 16 11 (oF 4 2),
 Y 12 17 11 (.iarr 5 1 (.t 16) (.t 15)),
 Y 13 18 11 (oL 17),
 Y 14 19 11 (oF 2 2),
 Y 15 20 11 (oL 19),
 Y 16 21 11 (oB .add 18 20),
 Y 17 22 11 (oB .geq 13 21),
 I 18 23 (oA 11 22),
 M 19 4 23] true [4])
 (.ret))),false⟩
def e4y:AC :=
 (.seq (.region 0 [
 I 0 44 (oB .lss 43 42)] false [1,2,3,4,5,7,8,9,21,22,41,42,43,44])
 (.seq (.cond (.t 44)
 (.skip)
 (.exit 2))
 (.seq (.block 3 (.seq (.region 0 [
 I 0 45 (oI 1 41 43),
 I 1 46 (oL 45),
 M 2 11 46] false [1,2,3,4,5,7,8,9,11,21,22,41,42,43])
 (.seq (.region 0 [
 M 0 47 11,
 I 1 48 (oF 0 2),
 I 2 49 (oF 0 48),
 I 3 50 (oL 49),
 I 4 51 (oK .sub 50 1),
 I 5 52 (.call true (.f 298) [.t 47,.k (.sc (.int .i64 0)),.t 51]),
 M 6 53 52,
 Y 7 54 53 (oM 11),
 Y 8 55 53 (.iarr 5 1 (.t 5) (.t 54)),
 Y 9 56 53 (oL 55),
 Y 10 57 53 (oK .geq 56 0),
 I 11 58 (oA 53 57),
 M 12 59 58,
 Y 13 60 59 (oM 11),
 Y 14 61 59 (.iarr 5 1 (.t 5) (.t 60)),
 Y 15 62 59 (oL 61),
 Y 16 63 59 (oF 3 3),
 Y 17 64 59 (oL 63),
 Y 18 65 59 (oB .add 62 64),
 Y 19 66 59 (oM 1),
 Y 20 67 59 (oB .eql 65 66),
 I 21 68 (oA 59 67),
 M 22 69 68,
 Y 23 70 69 (oF 11 2),
 Y 24 71 69 (oL 70),
 Y 25 72 69 (oM 11),
 Y 26 73 69 (oM 1),
 Y 27 74 69 (.build [.int .i64 0,.int .i64 0] [(0,1,.t 72),(1,1,.t 73)]),
 Y 28 75 69 (.lookup false ⟨true,[1,1]⟩ (.sc (.bool false)) (.t 71) (.t 74)),
 Y 29 76 69 (oU .not 75),
 I 30 77 (oA 69 76)] true [1,2,3,4,5,7,8,9,21,22,41,42,43,77])
 (.cond (.t 77)
 (.region 0 [
 M 0 78 9,
 M 1 79 1,
 I 2 80 (.iarr 5 1 (.t 8) (.t 78)),
 J 3 (.store 1 (.t 80) (.t 79))] false [1,2,3,4,5,7,8,9,21,22,41,42,43])
 (.skip)))))
 (.region 0 [
 I 0 81 (oK .add 43 1),
 M 1 43 81] false [1,2,3,4,5,7,8,9,21,22,41,42,43]))))
def e7H:AC:=.loop [1,2,3,4,5,7,8,9,21,22,41,42,43] e4y
def e4H:AC :=
 (.seq (.region 0 [
 I 0 23 (oB .lss 22 21)] false [1,2,3,4,5,7,8,21,22,23])
 (.seq (.cond (.t 23)
 (.skip)
 (.exit 0))
 (.seq (.block 1 (.seq (.region 0 [
 M 0 24 22,
 M 1 9 24] false [1,2,3,4,5,7,8,9,21,22])
 (.seq (.seq (.region 0 [
 M 0 25 9,
 I 1 26 (.iarr 5 1 (.t 5) (.t 25)),
 I 2 27 (oL 26),
 I 3 28 (oK .geq 27 0),
 M 4 29 28,
 U 5 30 29 (oF 11 2),
 U 6 31 29 (oL 30),
 U 7 32 29 (oM 9),
 U 8 33 29 (oM 1),
 U 9 34 29 (.build [.int .i64 0,.int .i64 0] [(0,1,.t 32),(1,1,.t 33)]),
 U 10 35 29 (.lookup false ⟨true,[1,1]⟩ (.sc (.bool false)) (.t 31) (.t 34)),
 I 11 36 (oO 29 35)] false [1,2,3,4,5,7,8,9,21,22,36])
 (.cond (.t 36)
 (.exit 1)
 (.skip)))
 (.seq (.region 0 [
 M 0 37 9,
 I 1 38 (oK .sub 37 1),
 M 2 39 9,
 I 3 40 (oK .add 39 1),
 I 4 41 (.bslice 1 2 [.int .i64 0] [(0,.t 38),(1,.t 40)]),
 I 5 42 (oN 1 41),
 I 6 43 (.mv (kI 0))] false [1,2,3,4,5,7,8,9,21,22,41,42,43])
 (.block 2 (e7H))))))
 (.region 0 [
 I 0 82 (oK .add 22 1),
 M 1 22 82] false [1,2,3,4,5,7,8,21,22]))))
def e7G:AC:=.loop [1,2,3,4,5,7,8,21,22] e4H
def e5n:Fn:=⟨5,88,[(7,some (some 5))],
 (.seq (.region 2 [
 I 0 5 (.box 0 (.t 0)),
 I 1 7 (.alloc 1 [.int .i64 0,.int .i64 0,.int .i64 0,.int .i64 0,.int .i64 0])] false [1,2,3,4,5,7])
 (.seq (.seq (.region 0 [
 M 0 12 1,
 I 1 13 (oF 0 2),
 I 2 14 (oF 1 13),
 I 3 15 (oL 14),
 I 4 16 (oB .geq 12 15)] false [1,2,3,4,5,7,16])
 (.cond (.t 16)
 (.seq (.region 0 [
 I 0 17 (oS 5 5),
 J 1 (.store 5 (.t 7) (.t 17))] false [7])
 (.ret))
 (.skip)))
 (.seq (.region 1 [
 I 0 18 (oS 5 5),
 I 1 8 (.alloc 0 [.int .i64 0,.int .i64 0,.int .i64 0,.int .i64 0,.int .i64 0]),
 J 2 (.store 5 (.t 8) (.t 18))] false [1,2,3,4,5,7,8])
 (.seq (.seq (.region 0 [
 I 0 19 (oF 0 2),
 I 1 20 (oF 0 19),
 I 2 21 (oL 20),
 I 3 22 (.mv (kI 0))] false [1,2,3,4,5,7,8,21,22])
 (.block 0 (e7G)))
 (.seq (.region 0 [
 I 0 83 (oL 4),
 I 1 84 (oS 5 8),
 M 2 85 1,
 I 3 86 (oK .add 85 1),
 I 4 87 (.call false (.t 83) [.t 84,.t 86]),
 J 5 (.store 5 (.t 7) (.t 87))] false [7])
 (.ret)))))),false⟩
def e4u:AC :=
 (.seq (.region 0 [
 I 0 9 (oB .lss 8 7)] false [0,1,7,8,9])
 (.seq (.cond (.t 9)
 (.skip)
 (.exit 0))
 (.seq (.block 1 (.seq (.region 0 [
 M 0 10 8,
 M 1 5 10] false [0,1,5,7,8])
 (.seq (.region 0 [
 M 0 11 1,
 M 1 12 0,
 M 2 13 5,
 I 3 14 (oI 3 12 13),
 I 4 15 (oS 3 14),
 I 5 16 (.call true (.t 11) [.t 15])] false [0,1,5,7,8,16])
 (.cond (.t 16)
 (.seq (.region 0 [
 M 0 17 5,
 M 1 4 17] false [4])
 (.ret))
 (.skip)))))
 (.region 0 [
 I 0 18 (oK .add 8 1),
 M 1 8 18] false [0,1,7,8]))))
def e5S:AC:=.loop [0,1,7,8] e4u
def e4B:Fn:=⟨2,19,[(4,none)],
 (.seq (.region 0 [
 I 0 4 (.mv (kI 0))] false [0,1])
 (.seq (.seq (.region 0 [
 M 0 6 0,
 I 1 7 (oN 1 6),
 I 2 8 (.mv (kI 0))] false [0,1,7,8])
 (.block 0 (e5S)))
 (.seq (.region 0 [
 I 0 4 (.mv (kI (-1)))] false [4])
 (.ret)))),false⟩
def e4U:AC :=
 (.seq (.region 0 [
 I 0 13 (oK .lss 12 3)] false [3,11,12,13])
 (.seq (.cond (.t 13)
 (.skip)
 (.exit 0))
 (.seq (.block 1 (.seq (.region 0 [
 I 0 14 (.index 3 1 none (.t 11) (.t 12)),
 M 1 5 14] false [3,5,11,12])
 (.seq (.region 0 [
 M 0 15 5,
 I 1 16 (oK .neq 15 9)] false [3,11,12,16])
 (.cond (.t 16)
 (.region 0 [
 I 0 17 (.mv (.tk 3)),
 I 1 18 (.bslice 1 1 [.int .i64 0] [(0,.k (.sc (.int .i64 1)))]),
 I 2 19 (.append 1 (.tk 17) (.t 18)),
 I 3 3 (.mv (.tk 19))] false [3,11,12])
 (.skip)))))
 (.region 0 [
 I 0 20 (oK .add 12 1),
 M 1 12 20] false [3,11,12]))))
def e7B:AC:=.loop [3,11,12] e4U
def e5k:Fn:=⟨1,23,[(2,none)],
 (.seq (.region 1 [
 I 0 1 (.box 0 (.t 0)),
 I 1 2 (.mv (kI 0))] false [1])
 (.seq (.seq (.region 0 [
 I 0 6 (oF 0 1),
 I 1 7 (oS 3 6),
 I 2 8 (.load (some 3) (.g 6)),
 I 3 9 (.eqf false ⟨true,[1,1,1]⟩ (.t 7) (.t 8))] false [1,9])
 (.cond (.t 9)
 (.seq (.region 0 [
 I 0 2 (.mv (kI 0))] false [2])
 (.ret))
 (.skip)))
 (.seq (.region 0 [
 I 0 3 (.mv (.k (.sc (.sl .nil 1 []))))] false [1,3])
 (.seq (.seq (.region 0 [
 I 0 10 (oF 0 1),
 I 1 11 (oS 3 10),
 I 2 12 (.mv (kI 0))] false [3,11,12])
 (.block 0 (e7B)))
 (.seq (.region 0 [
 M 0 21 3,
 I 1 22 (o1 345 21),
 M 2 2 22] false [2])
 (.ret)))))),false⟩
def e6p:Fn:=⟨1,8,[(2,none)],
 (.seq (.region 1 [
 I 0 1 (.box 0 (.t 0)),
 I 1 2 (.mv (kB false))] false [1])
 (.seq (.region 0 [
 I 0 3 (oF 0 1),
 I 1 4 (oL 3),
 I 2 5 (oF 1 1),
 I 3 6 (oL 5),
 I 4 7 (oB .eql 4 6),
 M 5 2 7] false [2])
 (.ret))),false⟩
def e4V:AC :=
 (.seq (.region 0 [
 I 0 9 (oK .lss 8 3)] false [1,3,7,8,9])
 (.seq (.cond (.t 9)
 (.skip)
 (.exit 0))
 (.seq (.block 1 (.seq (.region 0 [
 I 0 10 (.index 3 1 none (.t 7) (.t 8)),
 M 1 5 10] false [1,3,5,7,8])
 (.seq (.region 0 [
 M 0 11 5,
 I 1 12 (oK .neq 11 9)] false [1,3,5,7,8,12])
 (.cond (.t 12)
 (.region 0 [
 I 0 13 (.mv (.tk 3)),
 I 1 14 (oF 3 1),
 I 2 15 (oS 24 14),
 M 3 16 5,
 I 4 17 (o2 273 15 16),
 I 5 18 (oN 1 17),
 I 6 19 (.bslice 1 1 [.int .i64 0] [(0,.t 18)]),
 I 7 20 (.append 1 (.tk 13) (.t 19)),
 I 8 3 (.mv (.tk 20))] false [1,3,7,8])
 (.skip)))))
 (.region 0 [
 I 0 21 (oK .add 8 1),
 M 1 8 21] false [1,3,7,8]))))
def e7C:AC:=.loop [1,3,7,8] e4V
def e5O:Fn:=⟨1,24,[(2,none)],
 (.seq (.region 1 [
 I 0 1 (.box 0 (.t 0)),
 I 1 2 (.mv (kI 0))] false [1])
 (.seq (.region 0 [
 I 0 3 (.mv (.k (.sc (.sl .nil 1 []))))] false [1,3])
 (.seq (.seq (.region 0 [
 I 0 6 (oF 0 1),
 I 1 7 (oS 3 6),
 I 2 8 (.mv (kI 0))] false [1,3,7,8])
 (.block 0 (e7C)))
 (.seq (.region 0 [
 M 0 22 3,
 I 1 23 (o1 345 22),
 M 2 2 23] false [2])
 (.ret))))),false⟩
def e5v:AC :=
 (.seq (.region 0 [
 I 0 9 (oB .lss 8 7)] false [3,6,7,8,9])
 (.seq (.cond (.t 9)
 (.skip)
 (.exit 0))
 (.seq (.block 1 (.seq (.region 0 [
 I 0 10 (oI 1 6 8),
 I 1 11 (oL 10),
 M 2 5 11] false [3,5,6,7,8])
 (.region 0 [
 M 0 12 3,
 M 1 13 5,
 I 2 14 (oB .add 12 13),
 M 3 3 14] false [3,6,7,8])))
 (.region 0 [
 I 0 15 (oK .add 8 1),
 M 1 8 15] false [3,6,7,8]))))
def e7Q:AC:=.loop [3,6,7,8] e5v
def e6l:Fn:=⟨1,17,[(2,none)],
 (.seq (.region 0 [
 I 0 2 (.mv (kI 0))] false [0])
 (.seq (.region 0 [
 I 0 3 (.mv (kI 0))] false [0,3])
 (.seq (.seq (.region 0 [
 M 0 6 0,
 I 1 7 (oN 1 6),
 I 2 8 (.mv (kI 0))] false [3,6,7,8])
 (.block 0 (e7Q)))
 (.seq (.region 0 [
 M 0 16 3,
 M 1 2 16] false [2])
 (.ret))))),false⟩
def e6q:Fn:=⟨1,6,[(2,none)],
 (.seq (.region 1 [
 I 0 1 (.box 0 (.t 0)),
 I 1 2 (.mv (kB false))] false [1])
 (.seq (.region 0 [
 I 0 3 (oF 0 1),
 I 1 4 (oL 3),
 I 2 5 (oK .gtr 4 0),
 M 3 2 5] false [2])
 (.ret))),false⟩
def e5o:Fn:=⟨1,8,[(2,none)],
 (.seq (.region 0 [
 I 0 2 (.mv (.k (.sc (.sl .nil 3 []))))] false [0])
 (.seq (.seq (.region 0 [
 M 0 3 0,
 I 1 4 (.isnil 0 false (.t 3))] false [0,4])
 (.cond (.t 4)
 (.seq (.region 0 [
 I 0 2 (.mv (.k (.sc (.sl .nil 3 []))))] false [2])
 (.ret))
 (.skip)))
 (.seq (.region 1 [
 I 0 5 (.bslice 3 0 [.int .i64 0,.int .i64 0,.int .i64 0] []),
 M 1 6 0,
 I 2 7 (.appendM 0 3 (.t 5) (.t 6)),
 I 3 2 (.mv (.tk 7))] false [2])
 (.ret)))),true⟩
def e5t:Fn:=⟨2,9,[(4,none)],
 (.seq (.region 0 [
 I 0 4 (.mv (kB false))] false [0,1])
 (.seq (.region 0 [
 M 0 5 0,
 M 1 6 1,
 I 2 7 (.call false (.f 83) [.t 5,.t 6]),
 I 3 8 (oK .geq 7 0),
 M 4 4 8] false [4])
 (.ret))),false⟩
end Go.Pm.Ac
namespace Go.Pm
open Ac
class P04 (Γ:Env):Prop where
 f23:Γ.fn 23=some a3l
 f29:Γ.fn 29=some a2w
 f30:Γ.fn 30=some a4A
 f33:Γ.fn 33=some a3N
 f76:Γ.fn 76=some a2Q
 f83:Γ.fn 83=some a3r
 f105:Γ.fn 105=some a1F
 f111:Γ.fn 111=some a3C
 f112:Γ.fn 112=some a7d
 f113:Γ.fn 113=some a3V
 f117:Γ.fn 117=some a6w
 f118:Γ.fn 118=some a5M
 f121:Γ.fn 121=some a4h
 f122:Γ.fn 122=some a4I
 f123:Γ.fn 123=some a2j
 f131:Γ.fn 131=some a5u
 f144:Γ.fn 144=some a5P
 f145:Γ.fn 145=some a0N
 f146:Γ.fn 146=some a3U
 f150:Γ.fn 150=some a5Q
 f151:Γ.fn 151=some a5O
 f152:Γ.fn 152=some a6G
 f153:Γ.fn 153=some a5b
 f154:Γ.fn 154=some a5N
 f155:Γ.fn 155=some a1m
 f161:Γ.fn 161=some a5J
 f163:Γ.fn 163=some cmp_Compare_int
 f164:Γ.fn 164=some a5n
 f167:Γ.fn 167=some a4H
 f169:Γ.fn 169=some a4J
 f171:Γ.fn 171=some a3m
 f172:Γ.fn 172=some a3W
 f175:Γ.fn 175=some a1x
 f177:Γ.fn 177=some cmp_isNaN_int
 f187:Γ.fn 187=some a0P
 f188:Γ.fn 188=some a4G
 f189:Γ.fn 189=some a3S
 f190:Γ.fn 190=some a3u
 f196:Γ.fn 196=some a1O
 f197:Γ.fn 197=some a5v
 f199:Γ.fn 199=some a4g
 f200:Γ.fn 200=some a3n
 f209:Γ.fn 209=some d2G
 f234:Γ.fn 234=some e5D
 f236:Γ.fn 236=some e4E
 f238:Γ.fn 238=some e5L
 f240:Γ.fn 240=some e5B
 f242:Γ.fn 242=some e5C
 f244:Γ.fn 244=some e6m
 f245:Γ.fn 245=some e5u
 f247:Γ.fn 247=some e5b
 f249:Γ.fn 249=some e5p
 f251:Γ.fn 251=some e6d
 f257:Γ.fn 257=some e6U
 f259:Γ.fn 259=some e6s
 f260:Γ.fn 260=some e5Z
 f261:Γ.fn 261=some e6c
 f262:Γ.fn 262=some e6j
 f264:Γ.fn 264=some e6b
 f265:Γ.fn 265=some e5G
 f267:Γ.fn 267=some e4D
 f268:Γ.fn 268=some e6t
 f269:Γ.fn 269=some e6A
 f272:Γ.fn 272=some e5E
 f273:Γ.fn 273=some e5J
 f276:Γ.fn 276=some e5K
 f277:Γ.fn 277=some e5M
 f280:Γ.fn 280=some e6a
 f281:Γ.fn 281=some e6k
 f282:Γ.fn 282=some e4G
 f283:Γ.fn 283=some e4S
 f286:Γ.fn 286=some e6I
 f287:Γ.fn 287=some e5N
 f291:Γ.fn 291=some e6g
 f292:Γ.fn 292=some e5r
 f293:Γ.fn 293=some e7f
 f294:Γ.fn 294=some e4W
 f295:Γ.fn 295=some e6r
 f296:Γ.fn 296=some e7b
 f298:Γ.fn 298=some e7c
 f299:Γ.fn 299=some e5m
 f300:Γ.fn 300=some e6T
 f301:Γ.fn 301=some e4A
 f305:Γ.fn 305=some e6Z
 f308:Γ.fn 308=some e5l
 f310:Γ.fn 310=some e5f
 f311:Γ.fn 311=some e5F
 f312:Γ.fn 312=some e6x
 f313:Γ.fn 313=some e6o
 f315:Γ.fn 315=some e4C
 f319:Γ.fn 319=some e5P
 f320:Γ.fn 320=some e4K
 f321:Γ.fn 321=some e5Y
 f324:Γ.fn 324=some e5c
 f330:Γ.fn 330=some cmp_Less_int
 f333:Γ.fn 333=some e6n
 f334:Γ.fn 334=some e6i
 f335:Γ.fn 335=some e5X
 f336:Γ.fn 336=some e4x
 f337:Γ.fn 337=some e5n
 f342:Γ.fn 342=some e4B
 f343:Γ.fn 343=some e5q
 f345:Γ.fn 345=some e6l
 f346:Γ.fn 346=some e6q
 f347:Γ.fn 347=some e6p
 f348:Γ.fn 348=some e5k
 f349:Γ.fn 349=some e5O
 f357:Γ.fn 357=some g1V
 f361:Γ.fn 361=some e5o
 f362:Γ.fn 362=some e5t
end Go.Pm
namespace Go.Pm
inductive Tag {α:Type} (a:α):Type where
 | mk
inductive Tag2 {α β:Type} (a:α) (b:β):Type where
 | mk
inductive Tag3 {α β γ:Type} (a:α) (b:β) (c:γ):Type where
 | mk
def andThen {β:Type} (r:Option (Ex × St)) (Q:Ex->St->Option β):Option β :=
 match r with
 | some (e,s)=>Q e s
 | none=>none
noncomputable def E {β:Type} (Γ:Env) (c:AC) (s:St) (Q:Ex->St->Option β) (_:Tag2 c Q:=.mk):Option β:=andThen (X Γ c s) Q
theorem nrfl {α:Sort _} {a b:α} (h:a=b):a=b:=h
noncomputable def P1 {β:Type} (Γ:Env) (base:Nat) (dst:Option Nat) (o:Op) (s:St) (k:St->Option β) (_:Tag3 dst o k:=.mk):Option β :=
 match perform (K Γ) base s.h (rd Γ s.t) o with
 | none=>none
 | some (v,h)=>k { t:=put1 dst v (drop o.takes s.t),h:=h }
noncomputable def R0 {β:Type} (Γ:Env) (base:Nat):List Oper->St->(St->Option β)->Option β
 | [],s,k=>k s
 | o::os,s,k=>match o.guard with
  | none=>P1 Γ base o.dst o.op s fun s=>R0 Γ base os s k
  | some (g,w)=>match get s.t g with
   | .sc (.bool b)=>if b=w then P1 Γ base o.dst o.op { t:=(g,.sc (.bool w))::s.t,h:=s.h } fun s=>R0 Γ base os s k else R0 Γ base os { t:=put1 o.dst (.tup []) ((g,.sc (.bool !w))::s.t),h:=s.h } k
   | .tup []=>R0 Γ base os { t:=put1 o.dst (.tup []) s.t,h:=s.h } k
   | _=>none
noncomputable def R {β:Type} (Γ:Env) (base:Nat) (os:List Oper) (s:St) (k:St->Option β) (_:Tag2 os k:=.mk):Option β:=R0 Γ base os s k
def Same (s s':St):Prop:=(∀ i,get s.t i=get s'.t i)/\s.h=s'.h
theorem Same.refl (s:St):Same s s:=⟨fun _=>rfl,rfl⟩
theorem Same.rd {Γ:Env} {s s':St} (h:Same s s') (x:Rand):rd Γ s.t x=rd Γ s'.t x:=by
 cases x<;>simp only [Pm.rd]<;>rw [h.1]
theorem Same.put {s s':St} (h:Same s s') (d:Option Nat) (v:V) (k:List Obj):Same { t:=put1 d v s.t,h:=k } { t:=put1 d v s'.t,h:=k }:=by
 refine ⟨fun i=>?_,rfl⟩
 cases d with
 | none=>exact h.1 i
 | some d=>simp only [put1,get];rw [h.1]
theorem Same.drop {s s':St} (h:Same s s'):∀ (l:List Nat) (k:List Obj),Same { t:=drop l s.t,h:=k } { t:=drop l s'.t,h:=k }
 | [],k=>⟨h.1,rfl⟩
 | j::l,k=>by
  have:Same { t:=(j,(get s.t j).a0r)::s.t,h:=k } { t:=(j,(get s'.t j).a0r)::s'.t,h:=k }:=⟨fun i=>by simp only [get];rw [h.1,h.1],rfl⟩
  exact Same.drop this l k
theorem Same.learn {s:St} {g:Nat} {v:V} (h:get s.t g=v):Same s { t:=(g,v)::s.t,h:=s.h }:=⟨fun i=>by
 simp only [get]
 split
 ·rename_i e;subst e;exact h
 ·rfl,rfl⟩
theorem Same.put' {s s':St} (h:Same s s') (d:Option Nat) (v:V) (l:List Nat) (k:List Obj):Same { t:=put1 d v (Pm.drop l s.t),h:=k } { t:=put1 d v (Pm.drop l s'.t),h:=k } :=
 (h.drop l k).put d v k
theorem a7D {β:Type} {Γ:Env} {base:Nat} {d:Option Nat} {o:Op} {s s':St} {k:St->Option β} (hk:∀ s s',Same s s'->k s=k s') (h:Same s s'):P1 Γ base d o s k=P1 Γ base d o s' k:=by
 have hp:perform (K Γ) base s.h (rd Γ s.t) o=perform (K Γ) base s'.h (rd Γ s'.t) o:=by
  rw [h.2];exact congrArg (fun r=>perform (K Γ) base s'.h r o) (funext fun x=>h.rd x)
 unfold P1
 rw [hp]
 cases perform (K Γ) base s'.h (rd Γ s'.t) o with
 | none=>rfl
 | some q=>exact hk _ _ (h.put' _ _ _ _)
theorem a8E {β:Type} {Γ:Env} {base:Nat}:∀ {os:List Oper} {s s':St} {k:St->Option β},(∀ s s',Same s s'->k s=k s')->Same s s'->R0 Γ base os s k=R0 Γ base os s' k
 | [],s,s',k,hk,h=>hk _ _ h
 | o::os,s,s',k,hk,h=>by
  unfold R0
  cases o.guard with
  | none=>exact a7D (fun _ _ h=>a8E hk h) h
  | some p =>
   obtain ⟨g,w⟩:=p
   have lrn:∀ v,Same { t:=(g,v)::s.t,h:=s.h } { t:=(g,v)::s'.t,h:=s'.h }:=fun v=>⟨fun i=>by simp only [get];rw [h.1],h.2⟩
   simp only
   rw [h.1 g]
   cases get s'.t g with
   | sc c=>cases c with
    | bool b =>
     simp only
     by_cases hb:b=w
     ·rw [if_pos hb,if_pos hb];exact a7D (fun _ _ h=>a8E hk h) (lrn _)
     ·rw [if_neg hb,if_neg hb];refine a8E hk ?_;rw [h.2];exact (lrn _).put _ _ _
    | _=>rfl
   | agg=>rfl
   | tup vs=>cases vs with
    | nil=>simp only;refine a8E hk ?_;rw [h.2];exact h.put _ _ _
    | cons=>rfl
theorem b6o {β:Type} (Γ:Env) (base:Nat) {k:St->Option β} (hk:∀ s s',Same s s'->k s=k s'):∀ (os:List Oper) (s:St),(match steps Γ (K Γ) base os s with|some s=>k s|none=>none)=R0 Γ base os s k
 | [],s=>rfl
 | o::os,s=>by
  have ih:=b6o Γ base hk os
  have one:∀ s0:St,Same s s0->(match (match (match perform (K Γ) base s.h (rd Γ s.t) o.op with
   | none=>none
   | some (v,h)=>some ({ t:=put1 o.dst v (drop o.op.takes s.t),h:=h }:St)) with
   | none=>none
   | some s=>steps Γ (K Γ) base os s) with|some s=>k s|none=>none)=P1 Γ base o.dst o.op s0 fun s=>R0 Γ base os s k:=fun s0 h0=>by
   rw [← a7D (fun _ _ h=>a8E hk h) h0]
   unfold P1
   cases perform (K Γ) base s.h (rd Γ s.t) o.op with
   | none=>rfl
   | some q=>exact ih _
  unfold steps R0
  cases hg:o.guard with
  | none =>
   simp only [step,wanted,hg]
   exact one s (.refl s)
  | some p =>
   obtain ⟨g,w⟩:=p
   simp only [step,wanted,hg]
   cases hv:get s.t g with
   | sc c =>
    cases c with
    | bool b =>
     by_cases hb:b=w
     ·subst hb
      simp only [beq_self_eq_true,if_true]
      exact one _ (.learn hv)
     ·have:(b == w)=false:=by simpa using hb
      simp only [this,if_neg hb]
      refine (ih _).trans (a8E hk ?_)
      have:b=!w:=by cases b<;>cases w<;>simp at hb ⊢
      exact (Same.learn (s:=s) (g:=g) (by rw [hv,this])).put _ _ _
    | _=>rfl
   | agg cs=>rfl
   | tup vs =>
    cases vs with
    | nil=>exact ih _
    | cons=>rfl
noncomputable def RT0 {β:Type} (Γ:Env) (base:Nat):List Oper->St->List (Nat × Acc)->(St->Option β)->Option β
 | [],s,_,k=>k s
 | o::os,s,l,k=>match o.guard with
  | none=>if (o.conf.all fun j=>l.all fun p=>decide (p.1≠j)||Acc.free p.2 (acc base (rd Γ s.t) o.op))=true then P1 Γ base o.dst o.op s fun s'=>RT0 Γ base os s' ((o.ix,acc base (rd Γ s.t) o.op)::l) k else none
  | some (g,w)=>match get s.t g with
   | .sc (.bool b)=>if b=w then (if (o.conf.all fun j=>l.all fun p=>decide (p.1≠j)||Acc.free p.2 (acc base (rd Γ s.t) o.op))=true then P1 Γ base o.dst o.op { t:=(g,.sc (.bool w))::s.t,h:=s.h } fun s'=>RT0 Γ base os s' ((o.ix,acc base (rd Γ s.t) o.op)::l) k else none)
    else RT0 Γ base os { t:=put1 o.dst (.tup []) ((g,.sc (.bool !w))::s.t),h:=s.h } l k
   | .tup []=>RT0 Γ base os { t:=put1 o.dst (.tup []) s.t,h:=s.h } l k
   | _=>none
noncomputable def RTs {β:Type} (Γ:Env) (base:Nat) (os:List Oper) (s:St) (l:List (Nat × Acc)) (k:St->Option β) (_:Tag3 os l k:=.mk):Option β:=RT0 Γ base os s l k
theorem a7E {β:Type} {Γ:Env} {base:Nat}:∀ {os:List Oper} {s s':St} {l:List (Nat × Acc)} {k:St->Option β},(∀ s s',Same s s'->k s=k s')->Same s s'->RT0 Γ base os s l k=RT0 Γ base os s' l k
 | [],s,s',l,k,hk,h=>hk _ _ h
 | o::os,s,s',l,k,hk,h=>by
  have hacc:acc base (rd Γ s.t) o.op=acc base (rd Γ s'.t) o.op:=congrArg (fun r=>acc base r o.op) (funext fun x=>h.rd x)
  unfold RT0
  rw [hacc]
  cases o.guard with
  | none =>
   simp only
   split
   ·exact a7D (fun _ _ h=>a7E hk h) h
   ·rfl
  | some p =>
   obtain ⟨g,w⟩:=p
   have lrn:∀ v,Same { t:=(g,v)::s.t,h:=s.h } { t:=(g,v)::s'.t,h:=s'.h }:=fun v=>⟨fun i=>by simp only [get];rw [h.1],h.2⟩
   simp only
   rw [h.1 g]
   cases get s'.t g with
   | sc c=>cases c with
    | bool b =>
     simp only
     by_cases hb:b=w
     ·rw [if_pos hb,if_pos hb]
      split
      ·exact a7D (fun _ _ h=>a7E hk h) (lrn _)
      ·rfl
     ·rw [if_neg hb,if_neg hb];refine a7E hk ?_;rw [h.2];exact (lrn _).put _ _ _
    | _=>rfl
   | agg=>rfl
   | tup vs=>cases vs with
    | nil=>simp only;refine a7E hk ?_;rw [h.2];exact h.put _ _ _
    | cons=>rfl
theorem b3z {β:Type} (Γ:Env) (base:Nat) {k:St->Option β} (hk:∀ s s',Same s s'->k s=k s'):∀ (os:List Oper) (s:St) (l:List (Nat × Acc)),(match a3c Γ (K Γ) base os (s,l) with|some s=>k s.1|none=>none)=RT0 Γ base os s l k
 | [],s,l=>rfl
 | o::os,s,l=>by
  have ih:=b3z Γ base hk os
  unfold a3c RT0
  have done:∀ s0:St,Same s s0->(match (match (if (o.conf.all fun j=>l.all fun p=>decide (p.1≠j)||Acc.free p.2 (acc base (rd Γ s.t) o.op))=true then
   Option.map (fun s'=>(s',(o.ix,acc base (rd Γ s.t) o.op)::l)) (match perform (K Γ) base s.h (rd Γ s.t) o.op with
    | none=>none
    | some (v,h)=>some ({ t:=put1 o.dst v (drop o.op.takes s.t),h:=h }:St)) else none) with
   | none=>(none:Option (St × List (Nat × Acc)))
   | some s=>a3c Γ (K Γ) base os s) with|some s=>k s.1|none=>none) =
   (if (o.conf.all fun j=>l.all fun p=>decide (p.1≠j)||Acc.free p.2 (acc base (rd Γ s.t) o.op))=true then P1 Γ base o.dst o.op s0 fun s'=>RT0 Γ base os s' ((o.ix,acc base (rd Γ s.t) o.op)::l) k else none):=fun s0 h0=>by
   by_cases hc:(o.conf.all fun j=>l.all fun p=>decide (p.1≠j)||Acc.free p.2 (acc base (rd Γ s.t) o.op))=true
   ·rw [if_pos hc,if_pos hc, ← a7D (fun _ _ h=>a7E hk h) h0]
    unfold P1
    cases hp:perform (K Γ) base s.h (rd Γ s.t) o.op with
    | none=>rfl
    | some q=>obtain ⟨v,h⟩:=q;exact ih _ _
   ·rw [if_neg hc,if_neg hc]
  have skip:(match (match Option.map (fun s'=>(s',l)) (some ({ t:=put1 o.dst (.tup []) s.t,h:=s.h }:St)) with
   | none=>(none:Option (St × List (Nat × Acc)))
   | some s=>a3c Γ (K Γ) base os s) with|some s=>k s.1|none=>none)=RT0 Γ base os { t:=put1 o.dst (.tup []) s.t,h:=s.h } l k:=ih _ _
  cases hg:o.guard with
  | none =>
   simp only [stepT,step,wanted,hg]
   exact done s (.refl s)
  | some p =>
   obtain ⟨g,w⟩:=p
   simp only [stepT,step,wanted,hg]
   cases hv:get s.t g with
   | sc c =>
    cases c with
    | bool b =>
     by_cases hb:b=w
     ·subst hb
      simp only [beq_self_eq_true,if_true]
      exact done _ (.learn hv)
     ·have h1:(b == w)=false:=by simpa using hb
      simp only [h1,if_neg hb]
      refine skip.trans (a7E hk ?_)
      have:b=!w:=by cases b<;>cases w<;>simp at hb ⊢
      exact (Same.learn (s:=s) (g:=g) (by rw [hv,this])).put _ _ _
    | _=>rfl
   | agg cs=>rfl
   | tup vs =>
    cases vs with
    | nil=>exact skip
    | cons=>rfl
theorem a9D {β:Type} {keep:List Nat} {f:St->Option β}:∀ s s',Same s s'->f { t:=restrict keep s.t,h:=s.h }=f { t:=restrict keep s'.t,h:=s'.h }:=fun s s' h=>by
 have:restrict keep s.t=restrict keep s'.t:=List.map_congr_left fun i _=>by rw [h.1]
 rw [this,h.2]
/-! ### Words that are gone into from the front alone -/
def a0L {α β:Type} (a:Option α) (f:α->Option β) (_:Tag f:=.mk):Option β :=
 match a with
 | some x=>f x
 | none=>none
@[simp,go_sem] theorem a1K {α β:Type} (x:α) (f:α->Option β):a0L (some x) f=f x:=nrfl rfl
@[simp,go_sem] theorem c3T {α β:Type} (f:α->Option β):a0L none f=none:=nrfl rfl
def br {α:Type} (b:Bool) (x y:α) (_:Tag2 x y:=.mk):α:=match b with|true=>x|false=>y
attribute [go_sem] I J M Y U kI kB oL oS oF oI oN oB oK oE oU oM oO oA o1 o2 o3 o4
@[simp,go_sem] theorem a4R {α:Type} (x y:α):br true x y=x:=nrfl rfl
@[simp,go_sem] theorem a4r {α:Type} (x y:α):br false x y=y:=nrfl rfl
theorem a0o {α:Type} {p:Prop} [Decidable p] {x y r:α} (h:p) (h1:x=r):br (decide p) x y=r:=by rw [decide_eq_true h];exact h1
theorem a0t {α:Type} {p:Prop} [Decidable p] {x y r:α} (h:¬ p) (h1:y=r):br (decide p) x y=r:=by rw [decide_eq_false h];exact h1
theorem a0n {α:Type} {b:Bool} {x y r:α} (h:b=true) (h1:x=r):br b x y=r:=by rw [h];exact h1
theorem a0m {α:Type} {c d:Bool} {x y r:α} (h:(c&&d)=true) (h1:x=r):br (c&&d) x y=r:=by rw [h];exact h1
theorem a0l {α:Type} {p:Prop} [Decidable p] {a b:Acc} {x y r:α} (h:(decide p||Acc.free a b)=true) (h1:x=r):br (decide p||Acc.free a b) x y=r:=by rw [h];exact h1
theorem a0a {α:Type} {b:Bool} {x y r:α} (h1:b=true->x=r) (h2:b=false->y=r):br b x y=r:=by cases b<;>simp_all
theorem brY {α:Type} {p:Prop} [Decidable p] {x y r:α} (h1:x=r) (h:p:=by omega):br (decide p) x y=r:=a0o h h1
theorem brN {α:Type} {p:Prop} [Decidable p] {x y r:α} (h1:y=r) (h:¬ p:=by omega):br (decide p) x y=r:=a0t h h1
theorem brA {α:Type} {b:Bool} {x y r:α} (h1:x=r) (h:b=true:=by first|(simp only [Bool.and_eq_true,decide_eq_true_eq];omega)|fail):br b x y=r:=a0n h h1
theorem brD {α:Type} {p:Prop} [Decidable p] {a b:Acc} {x y r:α} (h1:x=r) (h:(decide p||Acc.free a b)=true:=by first|(simp [go_sem,Pm.acc,Acc.free,refsOf,a0h,a0c,a0g,a0b,a0d];done)|fail):br (decide p||Acc.free a b) x y=r:=a0l h h1
theorem brF {α:Type} {c d:Bool} {x y r:α} (h1:x=r) (h:(c&&d)=true:=by first|(simp [go_sem,Pm.acc,Acc.free,refsOf,a0h,a0c,a0g,a0b,a0d];done)|fail):br (c&&d) x y=r:=a0m h h1
def sel (b:Bool) (v:V):V:=if b then v else .tup []
@[go_sem] theorem c7d (b:Bool) (v:V):(sel b v).a0r=sel b v.a0r:=by cases b<;>rfl
@[go_sem] theorem c8M (v:V):sel true v=v:=nrfl rfl
@[go_sem] theorem c7c (v:V):sel false v=.tup []:=nrfl rfl
theorem a0p {b:Bool} (h:b=true) (v:V):sel b v=v:=by rw [h];rfl
def a9n {β:Type} (c x y:V) (f:V->Option β) (_:Tag f:=.mk):Option β:=match c with | .sc (.bool b)=>f (if b then x else y)|_=>none
@[go_sem] theorem c5s {β:Type} (x y:V) (f:V->Option β):a9n (.sc (.bool true)) x y f=f x:=nrfl rfl
@[go_sem] theorem c2R {β:Type} (x y:V) (f:V->Option β):a9n (.sc (.bool false)) x y f=f y:=nrfl rfl
@[go_sem] theorem c6Q {β:Type} (b c:Bool) (f:V->Option β):a9n (.sc (.bool b)) (sel b (.sc (.bool c))) (.sc (.bool false)) f=f (.sc (.bool (b&&c))):=by cases b<;>rfl
@[go_sem] theorem c8E {β:Type} (b c:Bool) (f:V->Option β):a9n (.sc (.bool b)) (.sc (.bool true)) (sel (!b) (.sc (.bool c))) f=f (.sc (.bool (b||c))):=by cases b<;>rfl
theorem a0f {β:Type} {b:Bool} {x y:V} {f:V->Option β} {r:Option β} (h:br b (f x) (f y)=r):a9n (.sc (.bool b)) x y f=r:=by cases b<;>exact h
theorem d7E {β:Type} {b:Bool} {x y:V} {f:V->Option β} {r:Option β} (h1:b=true->f x=r) (h2:b=false->f y=r):a9n (.sc (.bool b)) x y f=r:=a0f (a0a h1 h2)
def b8a {β:Type} (v:V) (f:Bool->Option β) (_:Tag f:=.mk):Option β:=match v with | .sc (.bool b)=>f b|_=>none
@[simp,go_sem] theorem c6I {β:Type} (b:Bool) (f:Bool->Option β):b8a (.sc (.bool b)) f=f b:=nrfl rfl
def a5s {β:Type} (v:V) (f:Bool->Option β) (g:Option β) (_:Tag2 f g:=.mk):Option β:=match v with | .sc (.bool b)=>f b | .tup []=>g|_=>none
@[simp,go_sem] theorem b4J {β:Type} (b:Bool) (f:Bool->Option β) (g:Option β):a5s (.sc (.bool b)) f g=f b:=nrfl rfl
@[simp,go_sem] theorem c2N {β:Type} (f:Bool->Option β) (g:Option β):a5s (.tup []) f g=g:=nrfl rfl
theorem a0e {β:Type} {b:Bool} {v:V} {f:Bool->Option β} {g r:Option β} (h1:b=true->a5s v f g=r) (h2:b=false->g=r):a5s (sel b v) f g=r:=by
 cases b with
 | true=>exact h1 rfl
 | false=>exact h2 rfl
def a7v {β:Type} (v:V) (f:IntKind->Int->Option β) (_:Tag f:=.mk):Option β:=match v with | .sc (.int k n)=>f k n|_=>none
@[simp,go_sem] theorem a7Y {β:Type} (k:IntKind) (n:Int) (f:IntKind->Int->Option β):a7v (.sc (.int k n)) f=f k n:=nrfl rfl
def a7w {β:Type} (v:V) (f:Nat->Nat->Option β) (g:List C->Nat->Option β) (_:Tag2 f g:=.mk):Option β:=match v with | .sc (.ptr p o)=>f p o | .sc (.eptr cs o)=>g cs o|_=>none
@[simp,go_sem] theorem a6b {β:Type} (p o:Nat) (f:Nat->Nat->Option β) (g:List C->Nat->Option β):a7w (.sc (.ptr p o)) f g=f p o:=nrfl rfl
@[simp,go_sem] theorem b2k {β:Type} (cs:List C) (o:Nat) (f:Nat->Nat->Option β) (g:List C->Nat->Option β):a7w (.sc (.eptr cs o)) f g=g cs o:=nrfl rfl
def a8j {β:Type} (o:Option Obj) (f:List C->Option β) (_:Tag f:=.mk):Option β:=match o with|some (.var cs)=>f cs|_=>none
@[simp,go_sem] theorem a5U {β:Type} (cs:List C) (f:List C->Option β):a8j (some (.var cs)) f=f cs:=nrfl rfl
def a5D {β:Type} (o:Option Obj) (x:Option β) (_:Tag x:=.mk):Option β:=match o with|some .free=>x|_=>none
@[simp,go_sem] theorem c6L {β:Type} (x:Option β):a5D (some .free) x=x:=nrfl rfl
def b6I {β:Type} (v:V) (f:List C->Option β) (_:Tag f:=.mk):Option β:=match v with | .agg cs=>f cs|_=>none
@[simp,go_sem] theorem b4I {β:Type} (cs:List C) (f:List C->Option β):b6I (.agg cs) f=f cs:=nrfl rfl
def c0o {β:Type} (v:V) (f:List V->Option β) (_:Tag f:=.mk):Option β:=match v with | .tup vs=>f vs|_=>none
@[simp,go_sem] theorem b9n {β:Type} (vs:List V) (f:List V->Option β):c0o (.tup vs) f=f vs:=nrfl rfl
def b0B {β:Type} (es:Nat) (v:V) (f:List (List C)->Option β) (_:Tag f:=.mk):Option β:=match elems es v with|some l=>f l|none=>none
@[simp,go_sem] theorem c5n {β:Type} (es:Nat) (k:SK) (l:List (List C)) (f:List (List C)->Option β):b0B es (.sc (.sl k es l)) f=f l:=by simp [b0B,elems]
@[simp,go_sem] theorem c2M {β:Type} (p:Bool) (es:Nat) (l:List (List C)) (f:List (List C)->Option β):b0B es (.sc (.own p es l)) f=f l:=by simp [b0B,elems]
def a8R {β:Type} (es:Nat) (v i:V) (f:Nat->Nat->Option β) (g:List C->Option β) (_:Tag2 f g:=.mk):Option β :=
 match v with
 | .sc (.msl p off len _ es')=>if es'≠es then none else match place len i with|some j=>f p (off+j*es)|none=>none
 | v=>match elems es v with
  | some l=>match nth l i with|some e=>g e|none=>none
  | none=>none
@[simp,go_sem] theorem c5m {β:Type} (es p off len cap:Nat) (i:Int) (k:IntKind) (f:Nat->Nat->Option β) (g:List C->Option β) :
 a8R es (.sc (.msl p off len cap es)) (.sc (.int k i)) f g=br (decide (0<=i/\i<len)) (f p (off+i.toNat*es)) none:=by
 simp only [a8R,place,ne_eq,not_true_eq_false,if_false]
 by_cases h:0<=i/\i<len<;>simp [h]
@[simp,go_sem] theorem c6K {β:Type} (es:Nat) (s:SK) (l:List (List C)) (i:Int) (k:IntKind) (f:Nat->Nat->Option β) (g:List C->Option β) :
 a8R es (.sc (.sl s es l)) (.sc (.int k i)) f g=br (decide (0<=i)) (a0L (l[i.toNat]?) g) none:=by
 simp only [a8R,elems,if_true,nth]
 by_cases h:0<=i
 ·simp only [h,if_true,decide_true,a4R];cases l[i.toNat]?<;>rfl
 ·simp [h]
section
variable {β:Type} (Γ:Env) (s:St) (Q:Ex->St->Option β)
@[go_sem] theorem d0k:E Γ .skip s Q=Q .norm s:=by unfold E;rw [X_eq];rfl
@[go_sem] theorem d0T:E Γ .ret s Q=Q .ret s:=by unfold E;rw [X_eq];rfl
@[go_sem] theorem d0i (id:Nat):E Γ (.exit id) s Q=Q (.exit id) s:=by unfold E;rw [X_eq];rfl
@[go_sem] theorem d0U (a b:AC):E Γ (.seq a b) s Q=E Γ a s fun e s=>match e with | .norm=>E Γ b s Q|e=>Q e s:=by
 unfold E
 rw [X_eq]
 simp only [a0U]
 cases X Γ a s with
 | none=>rfl
 | some p=>obtain ⟨e,s'⟩:=p;cases e<;>rfl
@[go_sem] theorem d0h (c:Rand) (a b:AC):E Γ (.cond c a b) s Q=b8a (rd Γ s.t c) fun x=>br x (E Γ a s Q) (E Γ b s Q):=by
 unfold E
 rw [X_eq]
 simp only [a0U]
 cases rd Γ s.t c with
 | sc c=>cases c with
  | bool x=>cases x<;>rfl
  | _=>rfl
 | _=>rfl
@[go_sem] theorem c8W (id:Nat) (a:AC):E Γ (.block id a) s Q=E Γ a s fun e s=>match e with | .exit id'=>if id'=id then Q .norm s else Q (.exit id') s|e=>Q e s:=by
 unfold E
 rw [X_eq]
 simp only [a0U]
 cases X Γ a s with
 | none=>rfl
 | some p =>
  obtain ⟨e,s'⟩:=p
  cases e with
  | exit id'=>simp only [andThen];by_cases h:id'=id<;>simp [h]
  | _=>rfl
@[go_sem] theorem d0S (i:Nat) (a:AC):E Γ (.frz i a) s Q=a0L (frozen i s) fun s=>E Γ a s Q:=by
 unfold E
 rw [X_eq]
 simp only [a0U]
 cases frozen i s<;>rfl
@[go_sem] theorem d0j (i:Nat) (a:AC):E Γ (.frzc i a) s Q=a0L (a3G i s) fun s=>E Γ a s Q:=by
 unfold E
 rw [X_eq]
 simp only [a0U]
 cases a3G i s<;>rfl
@[go_sem] theorem c7H (nal:Nat) (ops:List Oper) (keep:List Nat):E Γ (.region nal ops false keep) s Q=R Γ s.h.length ops { t:=s.t,h:=s.h++List.replicate nal .free } fun s=>Q .norm { t:=restrict keep s.t,h:=s.h }:=by
 unfold E R
 rw [X_eq, ← b6o Γ _ (a9D (f:=fun s=>Q .norm s))]
 simp only [a0U,region]
 cases steps Γ (K Γ) s.h.length ops { t:=s.t,h:=s.h++List.replicate nal .free }<;>rfl
@[go_sem] theorem c1K (nal:Nat) (ops:List Oper) (keep:List Nat):E Γ (.region nal ops true keep) s Q=RTs Γ s.h.length ops { t:=s.t,h:=s.h++List.replicate nal .free } [] fun s=>Q .norm { t:=restrict keep s.t,h:=s.h }:=by
 unfold E RTs
 rw [X_eq, ← b3z Γ _ (a9D (f:=fun s=>Q .norm s))]
 simp only [a0U,region]
 cases a3c Γ (K Γ) s.h.length ops ({ t:=s.t,h:=s.h++List.replicate nal .free },[])<;>rfl
theorem E_of {c:AC} {r:Ex × St} (h:X Γ c s=some r):E Γ c s Q=Q r.1 r.2:=by unfold E;rw [h];rfl
end
/-! ### Operations in their order -/
section
variable {β:Type} (Γ:Env) (base:Nat) (os:List Oper) (s:St) (k:St->Option β) (ix:Nat) (dst:Option Nat) (op:Op) (cf:List Nat) (l:List (Nat × Acc))
@[go_sem] theorem d0X:R Γ base [] s k=k s:=nrfl rfl
@[go_sem] theorem d0w:R Γ base (⟨ix,dst,op,none,cf⟩::os) s k=P1 Γ base dst op s fun s=>R Γ base os s k:=nrfl rfl
theorem b5H (g:Nat) (w:Bool):R Γ base (⟨ix,dst,op,some (g,w),cf⟩::os) s k=a5s (get s.t g) (fun b=>br b
      (br w (P1 Γ base dst op { t:=(g,.sc (.bool true))::s.t,h:=s.h } fun s=>R Γ base os s k) (R Γ base os { t:=put1 dst (.tup []) ((g,.sc (.bool true))::s.t),h:=s.h } k))
      (br w (R Γ base os { t:=put1 dst (.tup []) ((g,.sc (.bool false))::s.t),h:=s.h } k) (P1 Γ base dst op { t:=(g,.sc (.bool false))::s.t,h:=s.h } fun s=>R Γ base os s k)))
    (R Γ base os { t:=put1 dst (.tup []) s.t,h:=s.h } k):=by
  unfold R
  rw [R0]
  simp only
  cases get s.t g with
  | sc c=>cases c with
    | bool b=>cases b<;>cases w<;>simp
    | _=>rfl
  | agg=>rfl
  | tup vs=>cases vs<;>rfl
@[go_sem] theorem c7Y (g:Nat) (t:List (Nat × V)) (h:List Obj):R Γ base (⟨ix,dst,op,some (g,true),cf⟩::os) ⟨t,h⟩ k=a5s (get t g) (fun b=>br b
      (P1 Γ base dst op { t:=(g,.sc (.bool true))::t,h:=h } fun s=>R Γ base os s k) (R Γ base os { t:=put1 dst (.tup []) ((g,.sc (.bool false))::t),h:=h } k))
    (R Γ base os { t:=put1 dst (.tup []) t,h:=h } k):=b5H ..
@[go_sem] theorem c7X (g:Nat) (t:List (Nat × V)) (h:List Obj):R Γ base (⟨ix,dst,op,some (g,false),cf⟩::os) ⟨t,h⟩ k=a5s (get t g) (fun b=>br b
      (R Γ base os { t:=put1 dst (.tup []) ((g,.sc (.bool true))::t),h:=h } k) (P1 Γ base dst op { t:=(g,.sc (.bool false))::t,h:=h } fun s=>R Γ base os s k))
    (R Γ base os { t:=put1 dst (.tup []) t,h:=h } k):=b5H ..
@[go_sem] theorem d0v:RTs Γ base [] s l k=k s:=nrfl rfl
@[go_sem] theorem c7V:RTs Γ base (⟨ix,dst,op,none,[]⟩::os) s l k=P1 Γ base dst op s fun s'=>RTs Γ base os s' ((ix,acc base (rd Γ s.t) op)::l) k:=by
 unfold RTs
 rw [RT0];simp
theorem c0D:RTs Γ base (⟨ix,dst,op,none,cf⟩::os) s l k=br (cf.all fun j=>l.all fun p=>decide (p.1≠j)||Acc.free p.2 (acc base (rd Γ s.t) op)) (P1 Γ base dst op s fun s'=>RTs Γ base os s' ((ix,acc base (rd Γ s.t) op)::l) k) none:=by
 unfold RTs
 rw [RT0]
 simp only
 cases cf.all fun j=>l.all fun p=>decide (p.1≠j)||Acc.free p.2 (acc base (rd Γ s.t) op)<;>rfl
@[go_sem] theorem c7W (c:Nat) (cs:List Nat):RTs Γ base (⟨ix,dst,op,none,c::cs⟩::os) s l k=br ((c::cs).all fun j=>l.all fun p=>decide (p.1≠j)||Acc.free p.2 (acc base (rd Γ s.t) op)) (P1 Γ base dst op s fun s'=>RTs Γ base os s' ((ix,acc base (rd Γ s.t) op)::l) k) none :=
 c0D ..
@[go_sem] theorem c6h (g:Nat) (w:Bool):RTs Γ base (⟨ix,dst,op,some (g,w),[]⟩::os) s l k=a5s (get s.t g) (fun b=>br b
      (br w (P1 Γ base dst op { t:=(g,.sc (.bool true))::s.t,h:=s.h } fun s'=>RTs Γ base os s' ((ix,acc base (rd Γ s.t) op)::l) k) (RTs Γ base os { t:=put1 dst (.tup []) ((g,.sc (.bool true))::s.t),h:=s.h } l k))
      (br w (RTs Γ base os { t:=put1 dst (.tup []) ((g,.sc (.bool false))::s.t),h:=s.h } l k) (P1 Γ base dst op { t:=(g,.sc (.bool false))::s.t,h:=s.h } fun s'=>RTs Γ base os s' ((ix,acc base (rd Γ s.t) op)::l) k)))
    (RTs Γ base os { t:=put1 dst (.tup []) s.t,h:=s.h } l k):=by
  unfold RTs
  rw [RT0]
  simp only [List.all_nil,if_true]
  cases get s.t g with
  | sc c=>cases c with
    | bool b=>cases b<;>cases w<;>simp
    | _=>rfl
  | agg=>rfl
  | tup vs=>cases vs<;>rfl
@[go_sem] theorem c6i (g:Nat) (w:Bool) (c:Nat) (cs:List Nat):RTs Γ base (⟨ix,dst,op,some (g,w),c::cs⟩::os) s l k=a5s (get s.t g) (fun b=>br (b == w)
      (br ((c::cs).all fun j=>l.all fun p=>decide (p.1≠j)||Acc.free p.2 (acc base (rd Γ s.t) op)) (P1 Γ base dst op { t:=(g,.sc (.bool w))::s.t,h:=s.h } fun s'=>RTs Γ base os s' ((ix,acc base (rd Γ s.t) op)::l) k) none)
      (RTs Γ base os { t:=put1 dst (.tup []) ((g,.sc (.bool !w))::s.t),h:=s.h } l k))
    (RTs Γ base os { t:=put1 dst (.tup []) s.t,h:=s.h } l k):=by
  unfold RTs
  rw [RT0]
  simp only
  cases get s.t g with
  | sc c=>cases c with
    | bool b =>
      simp only [b4J]
      generalize (List.all (_::_) fun j=>l.all fun p=>decide (p.1≠j)||Acc.free p.2 (acc base (rd Γ s.t) op))=z
      cases b<;>cases w<;>cases z<;>simp
    | _=>rfl
  | agg=>rfl
  | tup vs=>cases vs<;>rfl
end
/-! ### Each operation -/
theorem a1S {h:List Obj} {r:Nat}:a1z h r=true<->h[r]?=some .free:=by
 unfold a1z
 constructor
 ·intro e
  split at e
  ·assumption
  ·cases e
 ·intro e;rw [e]
theorem a4C {β:Type} {o:Option Obj} (x:Option β) (h:o≠some .free):a5D o x=none:=by
 unfold a5D
 split
 ·exact absurd rfl h
 ·rfl
section
variable {β:Type} (Γ:Env) (base:Nat) (d:Option Nat) (t:List (Nat × V)) (h:List Obj) (k:St->Option β)
@[go_sem] theorem d0V (x:Rand):P1 Γ base d (.mv x) ⟨t,h⟩ k=k ⟨put1 d (rd Γ t x) (drop x.takes t),h⟩:=nrfl rfl
@[go_sem] theorem c9m (c a b:Rand):P1 Γ base d (.pick c a b) ⟨t,h⟩ k=a9n (rd Γ t c) (rd Γ t a) (rd Γ t b) (fun v=>k ⟨put1 d v t,h⟩):=by
 simp only [P1,perform,eff,a9n]
 cases rd Γ t c with
 | sc c=>cases c with
  | bool b=>cases b<;>rfl
  | _=>rfl
 | _=>rfl
theorem b3U {op:Op} {s:St}:P1 Γ base d op s k=a0L (P1 Γ base d op s some) k:=by
 unfold P1
 cases perform (K Γ) base s.h (rd Γ s.t) op<;>rfl
theorem a0k {op:Op} {i g:Nat} {v:V} {b:Bool} {r:Option β} (hv:b=true->P1 Γ base (some i) op ⟨(g,.sc (.bool true))::t,h⟩ some=some ⟨(i,v)::(g,.sc (.bool true))::t,h⟩)
 (hr:k ⟨(i,sel b v)::(g,.sc (.bool b))::t,h⟩=r) :
 br b (P1 Γ base (some i) op ⟨(g,.sc (.bool true))::t,h⟩ k) (k ⟨(i,.tup [])::(g,.sc (.bool false))::t,h⟩)=r:=by
 cases b with
 | true=>rw [a4R,b3U,hv rfl];exact hr
 | false=>exact hr
theorem a0j {op:Op} {i g:Nat} {v:V} {b:Bool} {r:Option β} (hv:(!b)=true->P1 Γ base (some i) op ⟨(g,.sc (.bool false))::t,h⟩ some=some ⟨(i,v)::(g,.sc (.bool false))::t,h⟩)
 (hr:k ⟨(i,sel (!b) v)::(g,.sc (.bool b))::t,h⟩=r) :
 br b (k ⟨(i,.tup [])::(g,.sc (.bool true))::t,h⟩) (P1 Γ base (some i) op ⟨(g,.sc (.bool false))::t,h⟩ k)=r:=by
 cases b with
 | false=>rw [a4r,b3U,hv rfl];exact hr
 | true=>exact hr
@[go_sem] theorem c7I (a:Nat) (z:List C):P1 Γ base d (.alloc a z) ⟨t,h⟩ k=a5D (h[base+a]?) (br (C.a0v z) (k ⟨put1 d (.sc (.ptr (base+a) 0)) t,h.set (base+a) (.var z)⟩) none):=by
 simp only [P1,perform,eff]
 by_cases hf:h[base+a]?=some .free
 ·have hi:=a1S.2 hf
  rw [hf]
  cases hz:C.a0v z<;>simp [hi]<;>rfl
 ·have hi:a1z h (base+a)=false:=by cases e:a1z h (base+a) with|false=>rfl|true=>exact absurd (a1S.1 e) hf
  rw [a4C _ hf];simp [hi]
@[go_sem] theorem d0o (a:Nat) (x:Rand):P1 Γ base d (.box a x) ⟨t,h⟩ k=a5D (h[base+a]?) (k ⟨put1 d (.sc (.ptr (base+a) 0)) (drop x.takes t),h.set (base+a) (.var (rd Γ t x).cells)⟩):=by
 simp only [P1,perform,eff]
 by_cases hf:h[base+a]?=some .free
 ·have hi:=a1S.2 hf
  rw [hf];simp [hi];rfl
 ·have hi:a1z h (base+a)=false:=by cases e:a1z h (base+a) with|false=>rfl|true=>exact absurd (a1S.1 e) hf
  rw [a4C _ hf];simp [hi]
@[go_sem] theorem c7J (z:List C) (ps:List (Nat × Nat × Rand)):P1 Γ base d (.build z ps) ⟨t,h⟩ k=a0L (a3a z (ps.map fun p=>(p.1,p.2.1,rd Γ t p.2.2))) fun cs=>k ⟨put1 d (.agg cs) t,h⟩:=by
 simp only [P1,perform,eff]
 cases a3a z (ps.map fun p=>(p.1,p.2.1,rd Γ t p.2.2))<;>rfl
@[go_sem] theorem c6b (es n:Nat) (z:List C) (ps:List (Nat × Rand)):P1 Γ base d (.bslice es n z ps) ⟨t,h⟩ k=a0L (a2c es (List.replicate n z) (ps.map fun p=>(p.1,rd Γ t p.2))) fun l =>
 br (decide (z.length=es)&&l.all C.a0v) (k ⟨put1 d (.sc (.sl .full es l)) t,h⟩) none:=by
 simp only [P1,perform,eff]
 cases a2c es (List.replicate n z) (ps.map fun p=>(p.1,rd Γ t p.2)) with
 | none=>rfl
 | some l =>
  simp only [a1K]
  by_cases h1:z.length=es
  ·cases h2:l.all C.a0v<;>simp [h1,h2]<;>rfl
  ·simp [h1]
@[go_sem] theorem c9k (n:Option Nat) (x:Rand):P1 Γ base d (.load n x) ⟨t,h⟩ k=a7w (rd Γ t x) (fun p off=>a8j (h[p]?) fun cs=>a0L (a1t cs off n) fun v=>k ⟨put1 d v t,h⟩) (fun cs off=>a0L (a1t cs off n) fun v=>k ⟨put1 d v t,h⟩):=by
 simp only [P1,perform,eff]
 cases rd Γ t x with
 | sc c=>cases c with
  | ptr p off =>
   simp only [a6b]
   cases h[p]? with
   | none=>rfl
   | some o=>cases o with
    | var cs=>simp only [a5U];cases a1t cs off n<;>rfl
    | _=>rfl
  | eptr cs off=>simp only [b2k];cases a1t cs off n<;>rfl
  | _=>rfl
 | _=>rfl
@[go_sem] theorem c7O (x:Rand):P1 Γ base d (.loadT x) ⟨t,h⟩ k=a7w (rd Γ t x) (fun p off=>a8j (h[p]?) fun cs=>a0L (cs[off]?) fun c=>k ⟨put1 d (.sc c) t,h.set p (.var (cs.set off (Pm.a0r c)))⟩) (fun _ _=>none):=by
 simp only [P1,perform,eff]
 cases rd Γ t x with
 | sc c=>cases c with
  | ptr p off =>
   simp only [a6b]
   cases h[p]? with
   | none=>rfl
   | some o=>cases o with
    | var cs=>simp only [a5U];cases cs[off]?<;>rfl
    | _=>rfl
  | _=>rfl
 | _=>rfl
@[go_sem] theorem c7U (n:Nat) (x v:Rand):P1 Γ base d (.store n x v) ⟨t,h⟩ k=a7w (rd Γ t x) (fun p off=>a8j (h[p]?) fun cs =>
 br (decide ((rd Γ t v).cells.length=n/\0<n/\off+n<=cs.length)) (k ⟨put1 d (.tup []) (drop (x.takes++v.takes) t),h.set p (.var (a1H cs off (rd Γ t v).cells))⟩) none) (fun _ _=>none):=by
 simp only [P1,perform,eff]
 cases rd Γ t x with
 | sc c=>cases c with
  | ptr p off =>
   simp only [a6b]
   cases h[p]? with
   | none=>rfl
   | some o=>cases o with
    | var cs=>simp only [a5U];by_cases hc:(rd Γ t v).cells.length=n/\0<n/\off+n<=cs.length<;>simp only [hc,decide_true,decide_false,a4R,a4r,if_true,if_false]<;>rfl
    | _=>rfl
  | _=>rfl
 | _=>rfl
@[go_sem] theorem d0n (op:BinOp) (x y:Rand):P1 Γ base d (.bin op x y) ⟨t,h⟩ k=a0L (bin op (rd Γ t x) (rd Γ t y)) fun c=>k ⟨put1 d (.sc c) t,h⟩:=by
 simp only [P1,perform,eff,one]
 cases bin op (rd Γ t x) (rd Γ t y)<;>rfl
@[go_sem] theorem d0p (neg:Bool) (ty:KT) (x y:Rand):P1 Γ base d (.eqf neg ty x y) ⟨t,h⟩ k=br (decide ((rd Γ t x).isAgg=ty.agg/\(rd Γ t y).isAgg=ty.agg)) (a0L (a0c ty.tags (rd Γ t x).cells (rd Γ t y).cells) fun b=>k ⟨put1 d (.sc (.bool (neg ^^ b))) t,h⟩) none:=by
 simp only [P1,perform,eff]
 by_cases hc:(rd Γ t x).isAgg=ty.agg/\(rd Γ t y).isAgg=ty.agg
 ·simp only [hc,and_self,if_true,decide_true,a4R];cases a0c ty.tags (rd Γ t x).cells (rd Γ t y).cells<;>rfl
 ·simp [hc]
@[go_sem] theorem d0W (op:UnOp) (x:Rand):P1 Γ base d (.un op x) ⟨t,h⟩ k=a0L (un op (rd Γ t x)) fun c=>k ⟨put1 d (.sc c) t,h⟩:=by
 simp only [P1,perform,eff,one]
 cases un op (rd Γ t x)<;>rfl
@[go_sem] theorem c9f (ki:IntKind) (x:Rand):P1 Γ base d (.conv ki x) ⟨t,h⟩ k=a7v (rd Γ t x) fun _ n=>k ⟨put1 d (.sc (.int ki (ki.wrap n))) t,h⟩:=by
 simp only [P1,perform,eff]
 cases rd Γ t x with
 | sc c=>cases c<;>rfl
 | _=>rfl
@[go_sem] theorem d0t (id:Nat) (sh:List (Option Nat)) (first cap:List Rand):P1 Γ base d (.mkf id sh first cap) ⟨t,h⟩ k=br (decide (shapes (first.map (rd Γ t))=some sh)&&decide (shapes (cap.map (rd Γ t))=some (cap.map fun _=>none)))
 (k ⟨put1 d (.sc (.fn (.fn id) sh ((first.map (rd Γ t)).flatMap V.cells) ((cap.map (rd Γ t)).flatMap V.cells))) t,h⟩) none:=by
 simp only [P1,perform,eff]
 by_cases h1:shapes (first.map (rd Γ t))=some sh
 ·by_cases h2:shapes (cap.map (rd Γ t))=some (cap.map fun _=>none)<;>simp [h1,h2]<;>rfl
 ·simp [h1]
@[go_sem] theorem c7P (a:Nat) (ka va:Bool):P1 Γ base d (.mkmap a ka va) ⟨t,h⟩ k=a5D (h[base+a]?) (k ⟨put1 d (.sc (.map (base+a))) t,h.set (base+a) (.map ka va [] none)⟩):=by
 simp only [P1,perform,eff]
 by_cases hf:h[base+a]?=some .free
 ·have hi:=a1S.2 hf
  rw [hf];simp [hi];rfl
 ·have hi:a1z h (base+a)=false:=by cases e:a1z h (base+a) with|false=>rfl|true=>exact absurd (a1S.1 e) hf
  rw [a4C _ hf];simp [hi]
@[go_sem] theorem c7S (es:Nat) (x:Rand) (lo hi mx:Option Rand):P1 Γ base d (.slice es x lo hi mx) ⟨t,h⟩ k=a0L (sliced es (rd Γ t x) (lo.map (rd Γ t)) (hi.map (rd Γ t)) (mx.map (rd Γ t))) fun c=>k ⟨put1 d (.sc c) t,h⟩:=by
 simp only [P1,perform,eff,one]
 cases sliced es (rd Γ t x) (lo.map (rd Γ t)) (hi.map (rd Γ t)) (mx.map (rd Γ t))<;>rfl
@[go_sem] theorem c7R (n es:Nat) (x:Rand) (lo hi mx:Option Rand):P1 Γ base d (.slArr n es x lo hi mx) ⟨t,h⟩ k=a0L (a8k n es (rd Γ t x) (lo.map (rd Γ t)) (hi.map (rd Γ t)) (mx.map (rd Γ t))) fun c=>k ⟨put1 d (.sc c) t,h⟩:=by
 simp only [P1,perform,eff,one]
 cases a8k n es (rd Γ t x) (lo.map (rd Γ t)) (hi.map (rd Γ t)) (mx.map (rd Γ t))<;>rfl
@[go_sem] theorem c7K (off:Nat) (x:Rand):P1 Γ base d (.faddr off x) ⟨t,h⟩ k=a7w (rd Γ t x) (fun p o=>k ⟨put1 d (.sc (.ptr p (o+off))) t,h⟩) (fun cs o=>k ⟨put1 d (.sc (.eptr cs (o+off))) t,h⟩):=by
 simp only [P1,perform,eff]
 cases rd Γ t x with
 | sc c=>cases c<;>rfl
 | _=>rfl
@[go_sem] theorem c7L (off:Nat) (n:Option Nat) (x:Rand):P1 Γ base d (.field off n x) ⟨t,h⟩ k=b6I (rd Γ t x) fun cs=>a0L (a1t cs off n) fun v=>k ⟨put1 d v t,h⟩:=by
 simp only [P1,perform,eff]
 cases rd Γ t x with
 | agg cs=>simp only [b4I];cases a1t cs off n<;>rfl
 | _=>rfl
@[go_sem] theorem c7M (es:Nat) (x i:Rand):P1 Γ base d (.iaddr es x i) ⟨t,h⟩ k=a8R es (rd Γ t x) (rd Γ t i) (fun p o=>k ⟨put1 d (.sc (.ptr p o)) t,h⟩) (fun e=>k ⟨put1 d (.sc (.eptr e 0)) t,h⟩):=by
 simp only [P1,perform,eff,a8R]
 cases rd Γ t x with
 | sc c=>cases c with
  | msl p off len cap es' =>
   simp only
   by_cases hes:es'=es
   ·simp only [hes,ne_eq,not_true_eq_false,if_false];cases place len (rd Γ t i)<;>rfl
   ·simp [hes]
  | sl kk es' l =>
   simp only [elems]
   by_cases hes:es'=es
   ·simp only [hes,if_true];cases nth l (rd Γ t i)<;>rfl
   ·simp [hes]
  | own p es' l =>
   simp only [elems]
   by_cases hes:es'=es
   ·simp only [hes,if_true];cases nth l (rd Γ t i)<;>rfl
   ·simp [hes]
  | _=>rfl
 | _=>rfl
@[go_sem] theorem c9g (len es:Nat) (x i:Rand):P1 Γ base d (.iarr len es x i) ⟨t,h⟩ k=a7w (rd Γ t x) (fun p o=>a7v (rd Γ t i) fun _ n=>br (decide (0<=n/\n<len)) (k ⟨put1 d (.sc (.ptr p (o+n.toNat*es))) t,h⟩) none)
 (fun cs o=>a7v (rd Γ t i) fun _ n=>br (decide (0<=n/\n<len)) (k ⟨put1 d (.sc (.eptr cs (o+n.toNat*es))) t,h⟩) none):=by
 simp only [P1,perform,eff]
 cases rd Γ t x with
 | sc c=>cases c with
  | ptr p o =>
   simp only [a6b]
   cases rd Γ t i with
   | sc c=>cases c with
    | int ki n=>simp only [place,a7Y];by_cases hc:0<=n/\n<len<;>simp [hc]<;>rfl
    | _=>rfl
   | _=>rfl
  | eptr p o =>
   simp only [b2k]
   cases rd Γ t i with
   | sc c=>cases c with
    | int ki n=>simp only [place,a7Y];by_cases hc:0<=n/\n<len<;>simp [hc]<;>rfl
    | _=>rfl
   | _=>rfl
  | _=>rfl
 | _=>rfl
@[go_sem] theorem c7N (len es:Nat) (n:Option Nat) (x i:Rand):P1 Γ base d (.index len es n x i) ⟨t,h⟩ k=b6I (rd Γ t x) fun cs=>a7v (rd Γ t i) fun _ j=>br (decide (0<=j/\j<len)) (a0L (a1t cs (j.toNat*es) n) fun v=>k ⟨put1 d v t,h⟩) none:=by
 simp only [P1,perform,eff]
 cases rd Γ t x with
 | agg cs =>
  simp only [b4I]
  cases rd Γ t i with
  | sc c=>cases c with
   | int ki j =>
    simp only [place,a7Y]
    by_cases hc:0<=j/\j<len
    ·simp only [hc,and_self,if_true,decide_true,a4R];cases a1t cs (j.toNat*es) n<;>rfl
    ·simp [hc]
   | _=>rfl
  | _=>rfl
 | _=>rfl
@[go_sem] theorem d0q (x:Rand) (i:Nat):P1 Γ base d (.ext x i) ⟨t,h⟩ k=c0o (rd Γ t x) fun vs=>a0L (vs[i]?) fun v=>k ⟨put1 d v t,h⟩:=by
 simp only [P1,perform,eff]
 cases rd Γ t x with
 | tup vs=>simp only [b9n];cases vs[i]?<;>rfl
 | _=>rfl
@[go_sem] theorem c9j (x:Rand):P1 Γ base d (.len 1 x) ⟨t,h⟩ k=a0L (match rd Γ t x with | .sc (.sl _ _ l)=>some (l.length:Int) | .sc (.msl _ _ n _ _)=>some (n:Int)|_=>none) fun n=>k ⟨put1 d (.sc (.int .i64 n)) t,h⟩:=by
 simp only [P1,perform,eff]
 cases rd Γ t x with
 | sc c=>cases c<;>rfl
 | _=>rfl
@[go_sem] theorem c6e (n:Nat):P1 Γ base d (.lenArr n) ⟨t,h⟩ k=k ⟨put1 d (.sc (.int .i64 n)) t,h⟩:=nrfl rfl
@[go_sem] theorem d0s (x:Rand) (xs:List Rand):P1 Γ base d (.min x xs) ⟨t,h⟩ k=a7v (rd Γ t x) fun ki n=>a0L (minOf ki n (xs.map (rd Γ t))) fun c=>k ⟨put1 d (.sc c) t,h⟩:=by
 simp only [P1,perform,eff,one]
 cases rd Γ t x with
 | sc c=>cases c with
  | int ki n=>simp only [a7Y];cases minOf ki n (xs.map (rd Γ t))<;>rfl
  | _=>rfl
 | _=>rfl
@[go_sem] theorem d0r (x:Rand) (xs:List Rand):P1 Γ base d (.max x xs) ⟨t,h⟩ k=a7v (rd Γ t x) fun ki n=>a0L (maxOf ki n (xs.map (rd Γ t))) fun c=>k ⟨put1 d (.sc c) t,h⟩:=by
 simp only [P1,perform,eff,one]
 cases rd Γ t x with
 | sc c=>cases c with
  | int ki n=>simp only [a7Y];cases maxOf ki n (xs.map (rd Γ t))<;>rfl
  | _=>rfl
 | _=>rfl
@[go_sem] theorem c6a (es:Nat) (x y:Rand):P1 Γ base d (.append es x y) ⟨t,h⟩ k=a0L (appended es (rd Γ t x) (rd Γ t y)) fun c=>k ⟨put1 d (.sc c) (drop (x.takes++y.takes) t),h⟩:=by
 simp only [P1,perform,eff,one]
 cases appended es (rd Γ t x) (rd Γ t y)<;>rfl
@[go_sem] theorem f8p (es:Nat) (x y:Rand):P1 Γ base d (.appendP es x y) ⟨t,h⟩ k=a0L (f1F es (rd Γ t x) (rd Γ t y)) fun c=>k ⟨put1 d (.sc c) (drop (x.takes++y.takes) t),h⟩:=by
 simp only [P1,perform,eff,one]
 cases f1F es (rd Γ t x) (rd Γ t y)<;>rfl
def e9F {β:Type} (es:Nat) (v:V) (f:Nat->Nat->Nat->Option β) (_:Tag f:=.mk):Option β:=match v with | .sc (.msl p off n _ es')=>if es'=es then f p off n else none|_=>none
@[simp,go_sem] theorem f6I {β:Type} (es p off n cap:Nat) (f:Nat->Nat->Nat->Option β):e9F es (.sc (.msl p off n cap es)) f=f p off n:=by simp [e9F]
@[go_sem] theorem f7p (es:Nat) (x y:Rand):P1 Γ base d (.copy es x y) ⟨t,h⟩ k=e9F es (rd Γ t x) fun p off n=>b0B es (rd Γ t y) fun l=>a8j (h[p]?) fun cs =>
 br (decide (off+n*es<=cs.length)) (k ⟨put1 d (.sc (.int .i64 (min l.length n:Nat))) t,h.set p (.var (a1H cs off (l.take n).flatten))⟩) none:=by
 simp only [P1,perform,eff,e9F,b0B]
 cases rd Γ t x with
 | sc c=>cases c with
  | msl p off n cap es' =>
   simp only
   cases elems es (rd Γ t y) with
   | none=>by_cases hes:es'=es<;>simp [hes]
   | some l =>
    by_cases hes:es'=es
    ·simp only [hes,ne_eq,not_true_eq_false,if_false,if_true]
     cases h[p]? with
     | none=>rfl
     | some o=>cases o with
      | var cs=>simp only [a5U];by_cases hc:off+n*es<=cs.length<;>simp only [hc,decide_true,decide_false,a4R,a4r,if_true,if_false]<;>rfl
      | _=>rfl
    ·simp [hes]
  | _=>rfl
 | _=>rfl
@[go_sem] theorem f8q (es:Nat) (z:List C) (x:Rand):P1 Γ base d (.clear es z x) ⟨t,h⟩ k=e9F es (rd Γ t x) fun p off n=>br (decide (z.length=es)) (a8j (h[p]?) fun cs =>
 br (decide (off+n*es<=cs.length)) (k ⟨put1 d (.tup []) t,h.set p (.var (a1H cs off (List.replicate n z).flatten))⟩) none) none:=by
 simp only [P1,perform,eff,e9F]
 cases rd Γ t x with
 | sc c=>cases c with
  | msl p off n cap es' =>
   simp only
   by_cases hes:es'=es
   ·by_cases hz:z.length=es
    ·simp only [hes,hz,ne_eq,not_true_eq_false,or_self,if_false,if_true,decide_true,a4R]
     cases h[p]? with
     | none=>rfl
     | some o=>cases o with
      | var cs=>simp only [a5U];by_cases hc:off+n*es<=cs.length<;>simp only [hc,decide_true,decide_false,a4R,a4r,if_true,if_false]<;>rfl
      | _=>rfl
    ·simp only [hes,hz,ne_eq,not_false_eq_true,or_true,if_true,decide_false,a4r]
     rfl
   ·simp [hes]
  | _=>rfl
 | _=>rfl
@[go_sem] theorem c6g (x:Rand):P1 Γ base d (.nilchk x) ⟨t,h⟩ k=a0L (match rd Γ t x with | .sc (.ptr p o)=>some (V.sc (.ptr p o)) | .sc (.eptr cs o)=>some (.sc (.eptr cs o)) | .sc (.fn f sh a b)=>some (.sc (.fn f sh a b))|_=>none) fun v=>k ⟨put1 d v t,h⟩:=by
 simp only [P1,perform,eff]
 cases rd Γ t x with
 | sc c=>cases c<;>rfl
 | _=>rfl
def e6V {β:Type} (args:List Rand) (v:V) (x:Option β) (_:Tag x:=.mk):Option β:=if args.any Rand.e6Y&&!v.flat then none else x
@[simp,go_sem] theorem f6l {β:Type} (v:V) (x:Option β):e6V [] v x=x:=nrfl rfl
@[simp,go_sem] theorem f7c {β:Type} (i:Nat) (as:List Rand) (v:V) (x:Option β):e6V (.t i::as) v x=e6V as v x:=nrfl rfl
@[simp,go_sem] theorem f7b {β:Type} (i:V) (as:List Rand) (v:V) (x:Option β):e6V (.k i::as) v x=e6V as v x:=nrfl rfl
@[simp,go_sem] theorem f6Z {β:Type} (i:Nat) (as:List Rand) (v:V) (x:Option β):e6V (.f i::as) v x=e6V as v x:=nrfl rfl
@[simp,go_sem] theorem f7a {β:Type} (i:Nat) (as:List Rand) (v:V) (x:Option β):e6V (.g i::as) v x=e6V as v x:=nrfl rfl
@[simp,go_sem] theorem f4F {β:Type} (as:List Rand) (b:Bool) (x:Option β):e6V as (.sc (.bool b)) x=x:=by simp [e6V,V.flat]
@[simp,go_sem] theorem f6k {β:Type} (as:List Rand) (k:IntKind) (n:Int) (x:Option β):e6V as (.sc (.int k n)) x=x:=by simp [e6V,V.flat]
@[go_sem] theorem c9e (p:Bool) (f:Rand) (args:List Rand):P1 Γ base d (.call p f args) ⟨t,h⟩ k=a0L (target (rd Γ t f) (args.map (rd Γ t))) fun q =>
 br p (br (q.2.all V.pure) (a0L (K Γ q.1 q.2 []) fun r=>a0L (alone h r) fun r=>e6V args r.1 (k ⟨put1 d r.1 t,r.2⟩)) none) (a0L (K Γ q.1 q.2 h) fun r=>k ⟨put1 d r.1 t,r.2⟩):=by
 simp only [P1,perform,calls]
 cases target (rd Γ t f) (args.map (rd Γ t)) with
 | none=>rfl
 | some q =>
  obtain ⟨fk,vs⟩:=q
  simp only [a1K]
  cases p with
  | false =>
   simp only [a4r,Bool.false_eq_true,if_false]
   cases K Γ fk vs h<;>rfl
  | true =>
   simp only [a4R,if_true]
   by_cases hv:vs.all V.pure=true
   ·rw [if_pos hv,hv]
    simp only [a4R]
    cases K Γ fk vs [] with
    | none=>rfl
    | some r =>
     simp only [Option.bind_some,a1K]
     cases alone h r with
     | none=>rfl
     | some q =>
      simp only [Option.bind_some,a1K,shut,e6V]
      by_cases hs:(args.any Rand.e6Y&&!q.1.flat)=true
      ·rw [if_pos hs,if_pos hs]
      ·rw [if_neg hs,if_neg hs];rfl
   ·rw [if_neg hv]
    have:vs.all V.pure=false:=by simpa using hv
    rw [this];rfl
end
theorem a8x {Γ:Env} {keep:List Nat} {body:AC} {s s':St} (h:E Γ body s (fun e s1=>match e with | .norm=>trim keep s.h.length s1|_=>none)=some s'):X Γ (.loop keep body) s=X Γ (.loop keep body) s':=by
 unfold E andThen at h
 rw [X_eq]
 simp only [a0U]
 cases hx:X Γ body s with
 | none=>rw [hx] at h;cases h
 | some p =>
  obtain ⟨e,s1⟩:=p
  rw [hx] at h
  cases e with
  | norm=>simp only at h ⊢;rw [h]
  | _=>simp at h
theorem a5y {Γ:Env} {keep:List Nat} {body:AC} {s:St} {r:Ex × St} (h:E Γ body s (fun e s1=>match e with | .norm=>none|e=>some (e,s1))=some r):X Γ (.loop keep body) s=some r:=by
 unfold E andThen at h
 rw [X_eq]
 simp only [a0U]
 cases hx:X Γ body s with
 | none=>rw [hx] at h;cases h
 | some p =>
  obtain ⟨e,s1⟩:=p
  rw [hx] at h
  cases e with
  | norm=>simp at h
  | exit id=>exact h
  | ret=>exact h
theorem a1J {β:Type} (Γ:Env) (keep:List Nat) (body:AC) (s:St) (Q:Ex->St->Option β) :
 E Γ (.loop keep body) s Q=E Γ body s fun e s1=>match e with | .norm=>a0L (trim keep s.h.length s1) fun s'=>E Γ (.loop keep body) s' Q|e=>Q e s1:=by
 unfold E
 rw [X_eq]
 simp only [a0U]
 cases hx:X Γ body s with
 | none=>rfl
 | some p =>
  obtain ⟨e,s1⟩:=p
  cases e with
  | norm=>simp only [andThen];cases trim keep s.h.length s1<;>rfl
  | _=>rfl
def a4N {σ α ρ:Type} (f:Nat->σ->α->Sum σ ρ) (e:σ->ρ):Nat->σ->List α->ρ
 | _,a,[]=>e a
 | n,a,x::l=>match f n a x with
  | .inl a=>a4N f e (n+1) a l
  | .inr r=>r
theorem b5I {Γ:Env} {σ α:Type} {keep:List Nat} {B:AC} (S:Nat->σ->St) (l:List α) (f:Nat->σ->α->Sum σ (Ex × St)) (T:σ->Ex × St)
 (hstep:∀ (i:Nat) a x a',l[i]?=some x->f i a x=.inl a'->E Γ B (S i a) (fun e s1=>match e with | .norm=>trim keep (S i a).h.length s1|_=>none)=some (S (i+1) a'))
 (hexit:∀ (i:Nat) a x r,l[i]?=some x->f i a x=.inr r->E Γ B (S i a) (fun e s1=>match e with | .norm=>none|e=>some (e,s1))=some r)
 (hend:∀ a,E Γ B (S l.length a) (fun e s1=>match e with | .norm=>none|e=>some (e,s1))=some (T a)) (a:σ) :
 X Γ (.loop keep B) (S 0 a)=some (a4N f T 0 a l):=by
 have main:∀ (m:List α) (i:Nat) (a:σ),l.drop i=m->i<=l.length->X Γ (.loop keep B) (S i a)=some (a4N f T i a m):=by
  intro m
  induction m with
  | nil =>
   intro i a hm hi
   have:l.length<=i:=by simpa using hm
   obtain rfl:i=l.length:=by omega
   exact a5y (hend a)
  | cons x m ih =>
   intro i a hm hi
   have hx:l[i]?=some x:=by
    have:=congrArg (fun z=>z[0]?) hm
    simpa using this
   have hlt:i<l.length:=(List.getElem?_eq_some_iff.1 hx).1
   unfold a4N
   cases hf:f i a x with
   | inl a' =>
    simp only
    rw [a8x (hstep i a x a' hx hf)]
    exact ih (i+1) a' (by rw [← List.drop_drop,hm];rfl) hlt
   | inr r=>exact a5y (hexit i a x r hx hf)
 exact main l 0 a rfl (Nat.zero_le _)
theorem c1P {Γ:Env} {σ α:Type} {keep:List Nat} {B:AC} (S:Nat->σ->St) (l:List α) (f:σ->α->σ) (T:σ->Ex × St)
 (hstep:∀ (i:Nat) a x,l[i]?=some x->E Γ B (S i a) (fun e s1=>match e with | .norm=>trim keep (S i a).h.length s1|_=>none)=some (S (i+1) (f a x)))
 (hend:∀ a,E Γ B (S l.length a) (fun e s1=>match e with | .norm=>none|e=>some (e,s1))=some (T a)) (a:σ) :
 X Γ (.loop keep B) (S 0 a)=some (T (l.foldl f a)):=by
 rw [b5I S l (fun _ a x=>.inl (f a x)) T (fun i a x a' hx hf=>by cases hf;exact hstep i a x hx) (fun i a x r hx hf=>by cases hf) hend a]
 have:∀ (m:List α) (n:Nat) (a:σ),a4N (fun _ a x=>Sum.inl (f a x)) T n a m=T (m.foldl f a):=by
  intro m
  induction m with
  | nil=>intro n a;rfl
  | cons x m ih=>intro n a;exact ih (n+1) (f a x)
 rw [this]
theorem b3H {β:Type} {Γ:Env} {c:AC} {s:St} {Q:Ex->St->Option β} {r:Ex × St} (h:X Γ c s=some r):E Γ c s Q=Q r.1 r.2:=E_of Γ s Q h
theorem a6g {β:Type} {Γ:Env} {σ α:Type} {keep:List Nat} {B:AC} (S:Nat->σ->St) (l:List α) (f:σ->α->σ) (T:σ->Ex × St) (Q:Ex->St->Option β)
 (hstep:∀ (i:Nat) a x,l[i]?=some x->E Γ B (S i a) (fun e s1=>match e with | .norm=>trim keep (S i a).h.length s1|_=>none)=some (S (i+1) (f a x)))
 (hend:∀ a,E Γ B (S l.length a) (fun e s1=>match e with | .norm=>none|e=>some (e,s1))=some (T a)) (a:σ) :
 E Γ (.loop keep B) (S 0 a) Q=Q (T (l.foldl f a)).1 (T (l.foldl f a)).2:=b3H (c1P S l f T hstep hend a)
theorem b5G {β:Type} {Γ:Env} {σ α:Type} {keep:List Nat} {B:AC} (S:Nat->σ->St) (l:List α) (f:Nat->σ->α->Sum σ (Ex × St)) (T:σ->Ex × St) (Q:Ex->St->Option β)
 (hstep:∀ (i:Nat) a x a',l[i]?=some x->f i a x=.inl a'->E Γ B (S i a) (fun e s1=>match e with | .norm=>trim keep (S i a).h.length s1|_=>none)=some (S (i+1) a'))
 (hexit:∀ (i:Nat) a x r,l[i]?=some x->f i a x=.inr r->E Γ B (S i a) (fun e s1=>match e with | .norm=>none|e=>some (e,s1))=some r)
 (hend:∀ a,E Γ B (S l.length a) (fun e s1=>match e with | .norm=>none|e=>some (e,s1))=some (T a)) (a:σ) :
 E Γ (.loop keep B) (S 0 a) Q=Q (a4N f T 0 a l).1 (a4N f T 0 a l).2:=b3H (b5I S l f T hstep hexit hend a)
def fin (f:Fn) (n:Nat) (s:St):Option (V × List Obj) :=
 a0L (results s f.res) fun rs=>br f.opn (some (tuple rs,s.h)) (a0L (a4X n s.h rs) fun rs=>br ((s.h.take n).all (Obj.under n)) (some (tuple rs,s.h.take n)) none)
theorem K_fn {Γ:Env} {id:Nat} {f:Fn} (hf:Γ.fn id=some f) (vs:List V) (h:List Obj) (hl:vs.length=f.np) :
 K Γ (.fn id) vs h=E Γ f.body { t:=number 0 vs,h:=h } fun e s=>match e with | .exit _=>none|_=>fin f h.length s:=by
 rw [K_eq]
 unfold E
 simp only [a3D,hf,hl,ne_eq,not_true_eq_false,if_false]
 have key:∀ s:St,(match results s f.res with
  | some rs=>if f.opn then some (tuple rs,s.h) else match a4X h.length s.h rs with
   | some rs=>if (s.h.take h.length).all (Obj.under h.length) then some (tuple rs,s.h.take h.length) else none
   | none=>none
  | none=>none)=fin f h.length s:=fun s=>by
  unfold fin
  cases results s f.res with
  | none=>rfl
  | some rs =>
   simp only [a1K]
   cases f.opn with
   | true=>rfl
   | false =>
    simp only [Bool.false_eq_true,if_false,a4r]
    cases a4X h.length s.h rs with
    | none=>rfl
    | some rs=>simp only [a1K];cases (s.h.take h.length).all (Obj.under h.length)<;>rfl
 cases X Γ f.body { t:=number 0 vs,h:=h } with
 | none=>rfl
 | some p =>
  obtain ⟨e,s⟩:=p
  cases e with
  | exit id=>rfl
  | norm=>exact key s
  | ret=>exact key s
@[go_sem] theorem c7w (k:IntKind) (n:Int):a0r (.int k n)=(.int k n):=nrfl rfl
@[go_sem] theorem c6o (k:IntKind) (n:Int):V.cells (.sc (.int k n))=[(.int k n)]:=nrfl rfl
@[go_sem] theorem c5y (k:IntKind) (n:Int) (vs:List V):shapes (.sc (.int k n)::vs)=(shapes vs).map (none::·):=nrfl rfl
@[go_sem] theorem c5S (b:Bool):a0r (.bool b)=(.bool b):=nrfl rfl
@[go_sem] theorem c3w (b:Bool):V.cells (.sc (.bool b))=[(.bool b)]:=nrfl rfl
@[go_sem] theorem c2V (b:Bool) (vs:List V):shapes (.sc (.bool b)::vs)=(shapes vs).map (none::·):=nrfl rfl
@[go_sem] theorem c7B (s:ByteArray):a0r (.str s)=(.str s):=nrfl rfl
@[go_sem] theorem c6t (s:ByteArray):V.cells (.sc (.str s))=[(.str s)]:=nrfl rfl
@[go_sem] theorem c5E (s:ByteArray) (vs:List V):shapes (.sc (.str s)::vs)=(shapes vs).map (none::·):=nrfl rfl
@[go_sem] theorem c8S (k:SK) (es:Nat) (l:List (List C)):a0r (.sl k es l)=(.sl k es l):=nrfl rfl
@[go_sem] theorem c8b (k:SK) (es:Nat) (l:List (List C)):V.cells (.sc (.sl k es l))=[(.sl k es l)]:=nrfl rfl
@[go_sem] theorem c7f (k:SK) (es:Nat) (l:List (List C)) (vs:List V):shapes (.sc (.sl k es l)::vs)=(shapes vs).map (none::·):=nrfl rfl
@[go_sem] theorem c5V (ka va:Bool) (l:List (List C × List C)):a0r (.imap ka va l)=(.imap ka va l):=nrfl rfl
@[go_sem] theorem c3y (ka va:Bool) (l:List (List C × List C)):V.cells (.sc (.imap ka va l))=[(.imap ka va l)]:=nrfl rfl
@[go_sem] theorem c2X (ka va:Bool) (l:List (List C × List C)) (vs:List V):shapes (.sc (.imap ka va l)::vs)=(shapes vs).map (none::·):=nrfl rfl
@[go_sem] theorem c5T (cs:List C) (off:Nat):a0r (.eptr cs off)=(.eptr cs off):=nrfl rfl
@[go_sem] theorem c3x (cs:List C) (off:Nat):V.cells (.sc (.eptr cs off))=[(.eptr cs off)]:=nrfl rfl
@[go_sem] theorem c2W (cs:List C) (off:Nat) (vs:List V):shapes (.sc (.eptr cs off)::vs)=(shapes vs).map (none::·):=nrfl rfl
@[go_sem] theorem c8R (f:Fk) (sh:List (Option Nat)) (first cap:List C):a0r (.fn f sh first cap)=(.fn f sh first cap):=nrfl rfl
@[go_sem] theorem c8a (f:Fk) (sh:List (Option Nat)) (first cap:List C):V.cells (.sc (.fn f sh first cap))=[(.fn f sh first cap)]:=nrfl rfl
@[go_sem] theorem c7e (f:Fk) (sh:List (Option Nat)) (first cap:List C) (vs:List V):shapes (.sc (.fn f sh first cap)::vs)=(shapes vs).map (none::·):=nrfl rfl
@[go_sem] theorem c5W :a0r .nilf=.nilf:=nrfl rfl
@[go_sem] theorem c3A :V.cells (.sc .nilf)=[.nilf]:=nrfl rfl
@[go_sem] theorem c2Z  (vs:List V):shapes (.sc .nilf::vs)=(shapes vs).map (none::·):=nrfl rfl
@[go_sem] theorem c5Y :a0r .nilp=.nilp:=nrfl rfl
@[go_sem] theorem c3C :V.cells (.sc .nilp)=[.nilp]:=nrfl rfl
@[go_sem] theorem c3b  (vs:List V):shapes (.sc .nilp::vs)=(shapes vs).map (none::·):=nrfl rfl
@[go_sem] theorem c5X :a0r .nili=.nili:=nrfl rfl
@[go_sem] theorem c3B :V.cells (.sc .nili)=[.nili]:=nrfl rfl
@[go_sem] theorem c3a  (vs:List V):shapes (.sc .nili::vs)=(shapes vs).map (none::·):=nrfl rfl
@[go_sem] theorem c7A (r off:Nat):a0r (.ptr r off)=(.ptr r off):=nrfl rfl
@[go_sem] theorem c6s (r off:Nat):V.cells (.sc (.ptr r off))=[(.ptr r off)]:=nrfl rfl
@[go_sem] theorem c5C (r off:Nat) (vs:List V):shapes (.sc (.ptr r off)::vs)=(shapes vs).map (none::·):=nrfl rfl
@[go_sem] theorem c7x (r:Nat):a0r (.map r)=(.map r):=nrfl rfl
@[go_sem] theorem c6p (r:Nat):V.cells (.sc (.map r))=[(.map r)]:=nrfl rfl
@[go_sem] theorem c5z (r:Nat) (vs:List V):shapes (.sc (.map r)::vs)=(shapes vs).map (none::·):=nrfl rfl
@[go_sem] theorem c7y (r off len cap es:Nat):a0r (.msl r off len cap es)=(.msl r off len cap es):=nrfl rfl
@[go_sem] theorem c6q (r off len cap es:Nat):V.cells (.sc (.msl r off len cap es))=[(.msl r off len cap es)]:=nrfl rfl
@[go_sem] theorem c5A (r off len cap es:Nat) (vs:List V):shapes (.sc (.msl r off len cap es)::vs)=(shapes vs).map (none::·):=nrfl rfl
@[go_sem] theorem c3h (r i:Nat):a0r (.stamp r i)=(.stamp r i):=nrfl rfl
@[go_sem] theorem c2G (r i:Nat):V.cells (.sc (.stamp r i))=[(.stamp r i)]:=nrfl rfl
@[go_sem] theorem c2t (r i:Nat) (vs:List V):shapes (.sc (.stamp r i)::vs)=(shapes vs).map (none::·):=nrfl rfl
@[go_sem] theorem c7z (es:Nat) (l:List (List C)):a0r (.own false es l)=.sl .shared es l:=nrfl rfl
@[go_sem] theorem f6K (es:Nat) (l:List (List C)):a0r (.own true es l)=.top:=nrfl rfl
@[go_sem] theorem f7d (es:Nat) (l:List (List C)):V.peek (.sc (.own true es l))=.sc (.sl (kindOf l) es l):=nrfl rfl
@[go_sem] theorem c6r (es:Nat) (l:List (List C)):V.cells (.sc (.own false es l))=[.own false es l]:=nrfl rfl
@[go_sem] theorem c9E (k:IntKind) (m:Int) (b':Nat) (h:List Obj) (n:Nat):frz b' h (n+1) (.int k m)=some (.int k m):=nrfl rfl
@[go_sem] theorem c8F (k:IntKind) (n:Int):C.pure (.int k n)=true:=nrfl rfl
@[go_sem] theorem c7o (k:IntKind) (n:Int) (m:Nat):C.under m (.int k n)=true:=nrfl rfl
@[go_sem] theorem c8k (b:Bool) (b':Nat) (h:List Obj) (n:Nat):frz b' h (n+1) (.bool b)=some (.bool b):=nrfl rfl
@[go_sem] theorem c6S (b:Bool):C.pure (.bool b)=true:=nrfl rfl
@[go_sem] theorem c5I (b:Bool) (m:Nat):C.under m (.bool b)=true:=nrfl rfl
@[go_sem] theorem c9J (s:ByteArray) (b':Nat) (h:List Obj) (n:Nat):frz b' h (n+1) (.str s)=some (.str s):=nrfl rfl
@[go_sem] theorem c8K (s:ByteArray):C.pure (.str s)=true:=nrfl rfl
@[go_sem] theorem c7u (s:ByteArray) (m:Nat):C.under m (.str s)=true:=nrfl rfl
@[go_sem] theorem d0A (k:SK) (es:Nat) (l:List (List C)) (b':Nat) (h:List Obj) (n:Nat):frz b' h (n+1) (.sl k es l)=some (.sl k es l):=nrfl rfl
@[go_sem] theorem c9T (k:SK) (es:Nat) (l:List (List C)):C.pure (.sl k es l)=true:=nrfl rfl
@[go_sem] theorem c8Q (k:SK) (es:Nat) (l:List (List C)) (m:Nat):C.under m (.sl k es l)=true:=nrfl rfl
@[go_sem] theorem c8m (ka va:Bool) (l:List (List C × List C)) (b':Nat) (h:List Obj) (n:Nat):frz b' h (n+1) (.imap ka va l)=some (.imap ka va l):=nrfl rfl
@[go_sem] theorem c6U (ka va:Bool) (l:List (List C × List C)):C.pure (.imap ka va l)=true:=nrfl rfl
@[go_sem] theorem c5K (ka va:Bool) (l:List (List C × List C)) (m:Nat):C.under m (.imap ka va l)=true:=nrfl rfl
@[go_sem] theorem c8l (cs:List C) (off:Nat) (b':Nat) (h:List Obj) (n:Nat):frz b' h (n+1) (.eptr cs off)=some (.eptr cs off):=nrfl rfl
@[go_sem] theorem c6T (cs:List C) (off:Nat):C.pure (.eptr cs off)=true:=nrfl rfl
@[go_sem] theorem c5J (cs:List C) (off:Nat) (m:Nat):C.under m (.eptr cs off)=true:=nrfl rfl
@[go_sem] theorem c8o  (b':Nat) (h:List Obj) (n:Nat):frz b' h (n+1) .nilf=some .nilf:=nrfl rfl
@[go_sem] theorem c6V :C.pure .nilf=true:=nrfl rfl
@[go_sem] theorem c5N  (m:Nat):C.under m .nilf=true:=nrfl rfl
@[go_sem] theorem c8q  (b':Nat) (h:List Obj) (n:Nat):frz b' h (n+1) .nilp=some .nilp:=nrfl rfl
@[go_sem] theorem c6X :C.pure .nilp=true:=nrfl rfl
@[go_sem] theorem c5P  (m:Nat):C.under m .nilp=true:=nrfl rfl
@[go_sem] theorem c8p  (b':Nat) (h:List Obj) (n:Nat):frz b' h (n+1) .nili=some .nili:=nrfl rfl
@[go_sem] theorem c6W :C.pure .nili=true:=nrfl rfl
@[go_sem] theorem c5O  (m:Nat):C.under m .nili=true:=nrfl rfl
@[go_sem] theorem c9H (b:Nat) (h:List Obj) (n es:Nat) (l:List (List C)):frz b h (n+1) (.own false es l)=some (.sl .shared es l):=nrfl rfl
@[go_sem] theorem c9I (b:Nat) (h:List Obj) (n r off:Nat):frz b h (n+1) (.ptr r off)=br (decide (r<b)) (some (.ptr r off)) (a8j (h[r]?) fun cs=>a0L (frzL b h n cs) fun cs=>br (C.a0v cs) (some (.eptr cs off)) none):=by
  simp only [frz]
  by_cases hc:r<b
  · simp [hc]
  · simp only [hc,if_false,decide_false,a4r]
    cases h[r]? with
    | none=>rfl
    | some o=>cases o with
      | var cs=>simp only [a5U];cases frzL b h n cs with
                  | none=>rfl
                  | some cs=>simp only [a1K];cases C.a0v cs<;>rfl
      | _=>rfl
@[go_sem] theorem c9F (b:Nat) (h:List Obj) (n r:Nat):frz b h (n+1) (.map r)=br (decide (r<b)) (some (.map r)) (match h[r]? with|some (.map ka va l none)=>some (.imap ka va l)|some (.set n f)=>some (.iset n f)|_=>none):=by
 simp only [frz]
 by_cases hc:r<b
 ·simp [hc]
 ·simp only [hc,if_false,decide_false,a4r];rfl
@[go_sem] theorem c9G (b:Nat) (h:List Obj) (n r off len cap es:Nat):frz b h (n+1) (.msl r off len cap es)=br (decide (r<b)) (some (.msl r off len cap es)) (a8j (h[r]?) fun cs=>a0L (frzL b h n cs) fun cs=>br (C.a0v cs) ((chunks cs off es len).map fun l=>.sl (if cap=len/\cap≠0 then .full else .shared) es l) none):=by
  simp only [frz]
  by_cases hc:r<b
  · simp [hc]
  · simp only [hc,if_false,decide_false,a4r]
    cases h[r]? with
    | none=>rfl
    | some o=>cases o with
      | var cs=>simp only [a5U];cases frzL b h n cs with
                  | none=>rfl
                  | some cs=>simp only [a1K];cases C.a0v cs<;>rfl
      | _=>rfl
@[go_sem] theorem d0z (b:Nat) (h:List Obj) (n id:Nat) (sh:List (Option Nat)) (first cap:List C):frz b h (n+1) (.fn (.fn id) sh first cap)=a0L (frzL b h n first) fun a=>a0L (frzL b h n cap) fun d=>some (.fn (.fn id) sh a d):=by
 simp only [frz]
 cases frzL b h n first with
 | none=>rfl
 | some a=>simp only [a1K];cases frzL b h n cap<;>rfl
@[go_sem] theorem c8i (b:Nat) (h:List Obj) (n:Nat):frzL b h (n+1) []=some []:=by simp [frzL]
@[go_sem] theorem c6x (b:Nat) (h:List Obj) (n:Nat) (c:C) (cs:List C):frzL b h (n+1) (c::cs)=a0L (frz b h n c) fun c=>a0L (frzL b h n cs) fun cs=>some (c::cs):=by
 simp only [frzL]
 cases frz b h n c with
 | none=>rfl
 | some c=>simp only [a1K];cases frzL b h n cs<;>rfl
@[go_sem] theorem c9D (b:Nat) (h:List Obj) (c:C):frzV b h (.sc c)=(frz b h 64 c).map .sc:=nrfl rfl
@[go_sem] theorem c8j (b:Nat) (h:List Obj) (cs:List C):frzV b h (.agg cs)=(frzL b h 128 cs).map .agg:=nrfl rfl
@[go_sem] theorem c6y (b:Nat) (h:List Obj):a4X b h []=some []:=nrfl rfl
@[go_sem] theorem c3I (b:Nat) (h:List Obj) (v:V) (vs:List V):a4X b h (v::vs)=a0L (frzV b h v) fun v=>a0L (a4X b h vs) fun vs=>some (v::vs):=by
 simp only [a4X]
 cases frzV b h v with
 | none=>rfl
 | some v=>simp only [a1K];cases a4X b h vs<;>rfl
@[go_sem] theorem c8J (r off:Nat):C.pure (.ptr r off)=false:=nrfl rfl
@[go_sem] theorem c8G (r:Nat):C.pure (.map r)=false:=nrfl rfl
@[go_sem] theorem c8H (r off len cap es:Nat):C.pure (.msl r off len cap es)=false:=nrfl rfl
@[go_sem] theorem c8I (p:Bool) (es:Nat) (l:List (List C)):C.pure (.own p es l)=false:=nrfl rfl
@[go_sem] theorem c9S (id:Nat) (sh:List (Option Nat)) (first cap:List C):C.pure (.fn (.fn id) sh first cap)=(C.a0v first&&C.a0v cap):=by simp [C.pure]
@[go_sem] theorem c7s (m r off:Nat):C.under m (.ptr r off)=decide (r<m):=nrfl rfl
@[go_sem] theorem c7p (m r:Nat):C.under m (.map r)=decide (r<m):=nrfl rfl
@[go_sem] theorem c7q (m r off len cap es:Nat):C.under m (.msl r off len cap es)=decide (r<m):=nrfl rfl
@[go_sem] theorem c7r (p:Bool) (m es:Nat) (l:List (List C)):C.under m (.own p es l)=true:=nrfl rfl
@[go_sem] theorem c7v (m:Nat):C.under m .top=true:=nrfl rfl
@[go_sem] theorem c8P (m id:Nat) (sh:List (Option Nat)) (first cap:List C):C.under m (.fn (.fn id) sh first cap)=(C.a0G m first&&C.a0G m cap):=by simp [C.under]
@[go_sem] theorem c3e (m l:Nat) (sh:List (Option Nat)) (first cap:List C):C.under m (.fn (.yield l) sh first cap)=(decide (l<m)&&C.a0G m first&&C.a0G m cap):=by simp [C.under]
@[go_sem] theorem c5H (m:Nat):C.a0G m []=true:=nrfl rfl
@[go_sem] theorem c3c (m:Nat) (c:C) (cs:List C):C.a0G m (c::cs)=(C.under m c&&C.a0G m cs):=nrfl rfl
@[go_sem] theorem c6R:C.a0v []=true:=nrfl rfl
@[go_sem] theorem c5u (c:C) (cs:List C):C.a0v (c::cs)=(C.pure c&&C.a0v cs):=nrfl rfl
@[go_sem] theorem c7Z (c:C):V.pure (.sc c)=c.pure:=nrfl rfl
@[go_sem] theorem c6j (cs:List C):V.pure (.agg cs)=C.a0v cs:=nrfl rfl
@[go_sem] theorem c6k (m:Nat) (c:C):V.under m (.sc c)=c.under m:=by simp [V.under]
@[go_sem] theorem c3r (m:Nat) (cs:List C):V.under m (.agg cs)=C.a0G m cs:=by simp [V.under]
@[go_sem] theorem c3s (m:Nat) (vs:List V):V.under m (.tup vs)=V.a2I m vs:=by simp [V.under]
@[go_sem] theorem c2F (m:Nat):V.a2I m []=true:=by simp [V.a2I]
@[go_sem] theorem c1O (m:Nat) (v:V) (vs:List V):V.a2I m (v::vs)=(v.under m&&V.a2I m vs):=by simp [V.a2I]
@[go_sem] theorem c3p (m:Nat) (cs:List C):Obj.under m (.var cs)=C.a0G m cs:=nrfl rfl
@[go_sem] theorem c2B (m:Nat):Obj.under m .dead=true:=nrfl rfl
@[go_sem] theorem c2C (m:Nat):Obj.under m .free=true:=nrfl rfl
@[go_sem] theorem c3o (m:Nat) (ka va:Bool) (l:List (List C × List C)) (ph:Option (List C × List C)):Obj.under m (.map ka va l ph)=true:=nrfl rfl
@[go_sem] theorem c2E (m:Nat) (st:LS) (pend:Option Ex) (t:List (Nat × V)) (ps:List Nat) (a b:AC):Obj.under m (.loop st pend t ps a b)=t.all fun p=>p.2.under m:=nrfl rfl
@[go_sem] theorem c6l (c:C):V.a0r (.sc c)=.sc (a0r c):=nrfl rfl
@[go_sem] theorem c3t (cs:List C):V.a0r (.agg cs)=.agg cs:=nrfl rfl
@[go_sem] theorem c3u (vs:List V):V.a0r (.tup vs)=.tup vs:=nrfl rfl
@[go_sem] theorem c6n (cs:List C):V.cells (.agg cs)=cs:=nrfl rfl
@[go_sem] theorem c8s (c:C):V.isAgg (.sc c)=false:=nrfl rfl
@[go_sem] theorem c6z (cs:List C):V.isAgg (.agg cs)=true:=nrfl rfl
@[go_sem] theorem c5B:shapes []=some []:=nrfl rfl
@[go_sem] theorem c5x (cs:List C) (vs:List V):shapes (.agg cs::vs)=(shapes vs).map (some cs.length::·):=nrfl rfl
section
variable (Γ:Env) (t:List (Nat × V)) (i j:Nat) (v:V) (h:List Obj)
@[go_sem] theorem rd_t:rd Γ t (.t i)=(get t i).a0r:=nrfl rfl
@[go_sem] theorem d1f:rd Γ t (.tk i)=get t i:=nrfl rfl
@[go_sem] theorem f8l:rd Γ t (.pk i)=(get t i).peek:=nrfl rfl
@[go_sem] theorem rd_k:rd Γ t (.k v)=v:=nrfl rfl
@[go_sem] theorem rd_f:rd Γ t (.f i)=.sc (.fn (.fn i) [] [] []):=nrfl rfl
@[go_sem] theorem rd_g:rd Γ t (.g i)=.sc (.eptr (Γ.glob i) 0):=nrfl rfl
@[go_sem] theorem c8r:get ((j,v)::t) i=if j=i then v else get t i:=nrfl rfl
@[go_sem] theorem c6Z:put1 (some i) v t=(i,v)::t:=nrfl rfl
@[go_sem] theorem c6Y:put1 none v t=t:=nrfl rfl
@[go_sem] theorem c6v:Pm.drop [] t=t:=nrfl rfl
@[go_sem] theorem drop_cons (l:List Nat):Pm.drop (i::l) t=Pm.drop l ((i,(get t i).a0r)::t):=nrfl rfl
@[go_sem] theorem c9Y:Rand.takes (.t i)=[]:=nrfl rfl
@[go_sem] theorem c8O:Rand.takes (.tk i)=[i]:=nrfl rfl
@[go_sem] theorem f7g:Rand.takes (.pk i)=[]:=nrfl rfl
@[go_sem] theorem c9X:Rand.takes (.k v)=[]:=nrfl rfl
@[go_sem] theorem c9V:Rand.takes (.f i)=[]:=nrfl rfl
@[go_sem] theorem c9W:Rand.takes (.g i)=[]:=nrfl rfl
@[go_sem] theorem c2p:restrict [] t=[]:=nrfl rfl
@[go_sem] theorem c1G (l:List Nat):restrict (i::l) t=(i,get t i)::restrict l t:=nrfl rfl
@[go_sem] theorem c3S:number i []=[]:=nrfl rfl
@[go_sem] theorem c2K (vs:List V):number i (v::vs)=(i,v)::number (i+1) vs:=nrfl rfl
@[go_sem] theorem c2S:results ⟨t,h⟩ []=some []:=nrfl rfl
@[go_sem] theorem c1H (ps:List (Nat × Option (Option Nat))):results ⟨t,h⟩ ((i,none)::ps)=a0L (results ⟨t,h⟩ ps) fun vs=>some ((get t i).a0r::vs):=by
 simp only [results,a7K]
 cases results ⟨t,h⟩ ps<;>rfl
@[go_sem] theorem c1I (n:Option Nat) (ps:List (Nat × Option (Option Nat))):results ⟨t,h⟩ ((i,some n)::ps)=a7w (get t i) (fun r off=>a8j (h[r]?) fun cs=>a0L (a1t cs off n) fun v=>a0L (results ⟨t,h⟩ ps) fun vs=>some (v::vs)) (fun _ _=>none):=by
  simp only [results,a7K]
  cases get t i with
  | sc c=>cases c with
    | ptr r off =>
      simp only [a6b]
      cases h[r]? with
      | none=>rfl
      | some o=>cases o with
        | var cs=>simp only [a5U];cases a1t cs off n with
                    | none=>rfl
                    | some v=>simp only [a1K];cases results ⟨t,h⟩ ps<;>rfl
        | _=>rfl
    | _=>rfl
  | _=>rfl
@[go_sem] theorem c7m:tuple [v]=v:=nrfl rfl
@[go_sem] theorem c7l:tuple []=.tup []:=nrfl rfl
@[go_sem] theorem c7n (a b:V) (l:List V):tuple (a::b::l)=.tup (a::b::l):=nrfl rfl
def turned (i:Nat) (t:List (Nat × V)) (h:List Obj) (v:V):Option St:=match v with
 | .sc (.ptr r off)=>match h[r]? with
  | some (.var cs)=>if C.a0v (cs.map a0r) then some { t:=(i,.sc (.eptr (cs.map a0r) off))::t,h:=h.set r .dead } else none
  | _=>none
 | .sc (.sl .nil es [])=>some ⟨(i,.sc (.own true es []))::t,h⟩
 | .sc (.own true es [])=>some ⟨(i,.sc (.sl .nil es []))::t,h⟩
 | .sc (.own true es (e::l))=>some ⟨(i,.sc (.msl h.length 0 (l.length+1) 0 es))::t,h++[.var (e::l).flatten]⟩
 | _=>none
@[go_sem] theorem c6w:frozen i ⟨t,h⟩=turned i t h (get t i):=nrfl rfl
@[go_sem] theorem f6q (r off:Nat):turned i t h (.sc (.ptr r off))=a8j (h[r]?) fun cs=>br (C.a0v (cs.map a0r)) (some ⟨(i,.sc (.eptr (cs.map a0r) off))::t,h.set r .dead⟩) none:=by
 simp only [turned]
 cases h[r]? with
 | none=>rfl
 | some o=>cases o with
  | var cs=>simp only [a5U];cases C.a0v (cs.map a0r)<;>rfl
  | _=>rfl
@[go_sem] theorem f6p (es:Nat):turned i t h (.sc (.sl .nil es []))=some ⟨(i,.sc (.own true es []))::t,h⟩:=nrfl rfl
@[go_sem] theorem f4I (es:Nat):turned i t h (.sc (.own true es []))=some ⟨(i,.sc (.sl .nil es []))::t,h⟩:=nrfl rfl
@[go_sem] theorem f4H (es:Nat) (e:List C) (l:List (List C)):turned i t h (.sc (.own true es (e::l)))=some ⟨(i,.sc (.msl h.length 0 (l.length+1) 0 es))::t,h++[.var (e::l).flatten]⟩:=nrfl rfl
@[go_sem] theorem d0a (keep:List Nat) (n:Nat):trim keep n ⟨t,h⟩=br ((restrict keep t).all (fun p=>p.2.under n)&&(h.take n).all (Obj.under n)) (some ⟨restrict keep t,h.take n⟩) none:=by
 simp only [trim]
 cases (restrict keep t).all (fun p=>p.2.under n)<;>cases (h.take n).all (Obj.under n)<;>simp [br]
end
section
variable (k:IntKind) (x y:Int)
@[go_sem] theorem c9o:bin .add (.sc (.int k x)) (.sc (.int k y))=some (.int k (k.wrap (x+y))):=by simp [bin,arith]
@[go_sem] theorem c9B:bin .sub (.sc (.int k x)) (.sc (.int k y))=some (.int k (k.wrap (x - y))):=by simp [bin,arith]
@[go_sem] theorem c9v:bin .mul (.sc (.int k x)) (.sc (.int k y))=some (.int k (k.wrap (x*y))):=by simp [bin,arith]
@[go_sem] theorem c9x:bin .quo (.sc (.int k x)) (.sc (.int k y))=br (decide (y=0)) none (some (.int k (k.wrap (x.tdiv y)))):=by
 by_cases h:y=0<;>simp [bin,arith,h]
@[go_sem] theorem c9y:bin .rem (.sc (.int k x)) (.sc (.int k y))=br (decide (y=0)) none (some (.int k (x.tmod y))):=by
 by_cases h:y=0<;>simp [bin,arith,h]
@[go_sem] theorem c9q:bin .eql (.sc (.int k x)) (.sc (.int k y))=some (.bool (decide (x=y))):=by simp [bin,arith,BEq.beq]
@[go_sem] theorem c9w:bin .neq (.sc (.int k x)) (.sc (.int k y))=some (.bool (!decide (x=y))):=by simp [bin,arith,bne,BEq.beq]
@[go_sem] theorem c9u:bin .lss (.sc (.int k x)) (.sc (.int k y))=some (.bool (decide (x<y))):=by simp [bin,arith]
@[go_sem] theorem c9t:bin .leq (.sc (.int k x)) (.sc (.int k y))=some (.bool (decide (x<=y))):=by simp [bin,arith]
@[go_sem] theorem c9s:bin .gtr (.sc (.int k x)) (.sc (.int k y))=some (.bool (decide (y<x))):=by simp [bin,arith]
@[go_sem] theorem c9r:bin .geq (.sc (.int k x)) (.sc (.int k y))=some (.bool (decide (y<=x))):=by simp [bin,arith]
@[go_sem] theorem d0F:un .neg (.sc (.int k x))=some (.int k (k.wrap (0 - x))):=nrfl rfl
@[go_sem] theorem d0G (b:Bool):un .not (.sc (.bool b))=some (.bool !b):=nrfl rfl
end
@[go_sem] theorem c1E (cs:List C) (off:Nat):a1t cs off none=a0L (cs[off]?) fun c=>some (.sc (a0r c)):=by
 simp only [a1t];cases cs[off]?<;>rfl
@[go_sem] theorem c1F (cs:List C) (off n:Nat):a1t cs off (some n)=a0L (a0R cs off n) fun l=>some (.agg (l.map a0r)):=by
 simp only [a1t];cases a0R cs off n<;>rfl
@[go_sem] theorem c1V (cs:List C) (off:Nat):a0R cs off 0=some []:=nrfl rfl
theorem a7O (cs:List C) (off n:Nat):a0R cs off (n+1)=a0L (cs[off]?) fun c=>a0L (a0R cs (off+1) n) fun l=>some (c::l):=by
 simp only [a0R]
 cases cs[off]? with
 | none=>rfl
 | some c=>simp only [a1K];cases a0R cs (off+1) n<;>rfl
@[go_sem] theorem a9P (c:C) (cs:List C):∀ (n k:Nat),a0R (c::cs) (k+1) n=a0R cs k n
 | 0,_=>rfl
 | n+1,k=>by rw [a7O,a7O,a9P c cs n (k+1),List.getElem?_cons_succ]
@[go_sem] theorem c1T (c:C) (cs:List C) (n:Nat):a0R (c::cs) 0 (n+1)=a0L (a0R cs 0 n) fun l=>some (c::l):=by
 rw [a7O,List.getElem?_cons_zero,a1K,a9P]
@[go_sem] theorem c5w (cs:List C) (off:Nat):a1H cs off []=cs:=nrfl rfl
@[go_sem] theorem c2T (cs:List C) (off:Nat) (v:C) (vs:List C):a1H cs off (v::vs)=a1H (cs.set off v) (off+1) vs:=nrfl rfl
@[go_sem] theorem c1B (z:List C):a3a z []=some z:=nrfl rfl
@[go_sem] theorem c0N (z:List C) (off n:Nat) (v:V) (r:List (Nat × Nat × V)):a3a z ((off,n,v)::r)=br (decide (v.cells.length=n/\0<n/\off+n<=z.length)) (a3a (a1H z off v.cells) r) none:=by
 simp only [a3a]
 by_cases h:v.cells.length=n/\0<n/\off+n<=z.length<;>simp [h]
@[go_sem] theorem c1C (es:Nat) (l:List (List C)):a2c es l []=some l:=nrfl rfl
@[go_sem] theorem c0O (es:Nat) (l:List (List C)) (i:Nat) (v:V) (r:List (Nat × V)):a2c es l ((i,v)::r)=br (decide (v.cells.length=es/\i<l.length)) (a2c es (l.set i v.cells) r) none:=by
 simp only [a2c]
 by_cases h:v.cells.length=es/\i<l.length<;>simp [h]
@[go_sem] theorem c7k (id:Nat) (sh:List (Option Nat)) (first cap:List C) (args:List V):target (.sc (.fn (.fn id) sh first cap)) args=a0L (a2F sh first) fun fs=>some (.fn id,fs++args++cap.map .sc):=by
 simp only [target];cases a2F sh first<;>rfl
@[go_sem] theorem c2x (l:Nat) (sh:List (Option Nat)) (first cap:List C) (args:List V):target (.sc (.fn (.yield l) sh first cap)) args=some (.yield l,args):=nrfl rfl
@[go_sem] theorem c5R:a2F [] []=some []:=nrfl rfl
@[go_sem] theorem c3f (sh:List (Option Nat)) (c:C) (cs:List C):a2F (none::sh) (c::cs)=a0L (a2F sh cs) fun l=>some (.sc c::l):=by
 simp only [a2F];cases a2F sh cs<;>rfl
@[go_sem] theorem c3g (n:Nat) (sh:List (Option Nat)) (cs:List C):a2F (some n::sh) cs=br (decide (n<=cs.length)) (a0L (a2F sh (cs.drop n)) fun l=>some (.agg (cs.take n)::l)) none:=by
 simp only [a2F]
 by_cases h:n<=cs.length
 ·simp only [h,if_true,decide_true,a4R];cases a2F sh (cs.drop n)<;>rfl
 ·simp [h]
@[go_sem] theorem c6m (h:List Obj) (v:V):alone h (v,[])=some (v,h):=nrfl rfl
@[go_sem] theorem c6D:a0c [] [] []=some true:=nrfl rfl
@[go_sem] theorem c2J (t:Nat) (ts:List Nat) (c d:C) (cs ds:List C):a0c (t::ts) (c::cs) (d::ds)=a0L (a0g t c d) fun a=>a0L (a0c ts cs ds) fun b=>some (a&&b):=by
 simp only [a0c]
 cases a0g t c d with
 | none=>rfl
 | some a=>simp only [a1K];cases a0c ts cs ds<;>rfl
@[go_sem] theorem c5F (a b:Bool):a0g 0 (.bool a) (.bool b)=some (a == b):=nrfl rfl
@[go_sem] theorem c7i (k:IntKind) (a b:Int):a0g 1 (.int k a) (.int k b)=some (decide (a=b)):=by simp [a0g,BEq.beq]
@[go_sem] theorem c7j (a b:ByteArray):a0g 2 (.str a) (.str b)=some (a == b):=nrfl rfl
@[go_sem] theorem c6G (k:IntKind) (x:Int):minOf k x []=some (.int k x):=nrfl rfl
@[go_sem] theorem c3R (k k':IntKind) (x y:Int) (r:List V):minOf k x (.sc (.int k' y)::r)=minOf k (min x y) r:=by
 simp only [minOf];congr 1;omega
@[go_sem] theorem c6E (k:IntKind) (x:Int):maxOf k x []=some (.int k x):=nrfl rfl
@[go_sem] theorem c3P (k k':IntKind) (x y:Int) (r:List V):maxOf k x (.sc (.int k' y)::r)=maxOf k (max x y) r:=by
 simp only [maxOf];congr 1;omega
mutual
theorem b5B (n:Nat):∀ c:C,c.pure=true->c.under n=true
 | .int _ _,_ | .bool _,_ | .str _,_ | .sl _ _ _,_ | .imap _ _ _,_ | .iset _ _,_ | .eptr _ _,_ | .nilf,_ | .nilp,_ | .nili,_ | .top,_=>by simp [C.under]
 | .own _ _ _,h | .ptr _ _,h | .map _,h | .msl _ _ _ _ _,h | .stamp _ _,h=>by simp [C.pure] at h
 | .fn f sh first cap,h=>by
  simp only [C.pure,Bool.and_eq_true] at h
  simp only [C.under,Bool.and_eq_true]
  refine ⟨⟨?_,a0C n first h.1.2⟩,a0C n cap h.2⟩
  cases f with
  | fn=>rfl
  | yield=>simp at h
theorem a0C (n:Nat):∀ cs:List C,C.a0v cs=true->C.a0G n cs=true
 | [],_=>rfl
 | c::cs,h=>by
  simp only [C.a0v,Bool.and_eq_true] at h
  simp only [C.a0G,Bool.and_eq_true]
  exact ⟨b5B n c h.1,a0C n cs h.2⟩
end
theorem wrap_i64 {x:Int} (h1 : -9223372036854775808<=x) (h2:x<=9223372036854775807):IntKind.i64.wrap x=x:=by
 have e1:IntKind.i64.bits=64:=rfl
 have e2:IntKind.i64.signed=true:=rfl
 simp only [IntKind.wrap,e1,e2,Bool.true_and,decide_eq_true_eq]
 split<;>omega
attribute [go_sem] fin Int.lt_irrefl Nat.lt_irrefl List.length_nil List.length_cons List.nil_append List.cons_append List.append_nil Nat.zero_add Nat.add_zero Option.map_some List.take_nil List.take_zero List.take_succ_cons List.all_nil List.all_cons List.getElem?_cons_zero List.getElem?_cons_succ List.set_cons_zero List.set_cons_succ List.map_nil List.map_cons List.replicate_zero List.replicate_succ List.flatMap_nil List.flatMap_cons Bool.and_true Bool.true_and Bool.and_false Bool.false_and Bool.and_self Bool.not_true Bool.not_false Bool.xor_false Bool.false_xor Bool.true_xor decide_true decide_false and_self and_true true_and Option.map_none Nat.zero_mul Nat.mul_one
abbrev vi (n:Int):V:=.sc (.int .i64 n)
abbrev vb (b:Bool):V:=.sc (.bool b)
abbrev ci (n:Int):C:=.int .i64 n
attribute [go_sem] Int.toNat_natCast wrap_i64 List.length_map List.getElem?_map Option.map_some Option.map_none List.all_cons List.all_nil List.isEmpty_nil Bool.and_self Bool.true_and Bool.and_true
end Go.Pm
namespace Go.Pm
open Go
section
variable {β:Type} (Γ:Env)
@[go_sem high] theorem c8X (nal:Nat) (ops:List Oper) (keep:List Nat) (s:St) (Q:Ex->St->Option β) (hc:(ops.all fun o=>o.conf.isEmpty)=true) :
 E Γ (.region nal ops true keep) s Q=R Γ s.h.length ops { t:=s.t,h:=s.h++List.replicate nal .free } fun s=>Q .norm { t:=restrict keep s.t,h:=s.h }:=by
 rw [c1K]
 have key:∀ (os:List Oper) (s:St) (l:List (Nat × Acc)) (k:St->Option β) (base:Nat),(os.all fun o=>o.conf.isEmpty)=true->RT0 Γ base os s l k=R0 Γ base os s k:=by
  intro os
  induction os with
  | nil=>intros;rfl
  | cons o os ih =>
   intro s l k base hc
   obtain ⟨ix,d,op,g,cf⟩:=o
   simp only [List.all_cons,Bool.and_eq_true,List.isEmpty_iff] at hc
   obtain ⟨rfl,hc⟩:=hc
   unfold RT0 R0 P1
   simp only [List.all_nil,if_true,ih _ _ _ _ hc]
 exact key _ _ _ _ _ hc
@[go_sem] theorem c8x {α:Type} (b:Bool) (x y:Option α) (f:α->Option β):a0L (br b x y) f=br b (a0L x f) (a0L y f):=by cases b<;>rfl
/-! ### Loops that seek -/
def a0z {α:Type} (p:Nat->α->Bool):Nat->List α->Option (Nat × α)
 | _,[]=>none
 | n,x::l=>if p n x then some (n,x) else a0z p (n+1) l
theorem a2L {α:Type} {p:Nat->α->Bool}:∀ {l:List α} {n:Nat},a0z p n l=none<->∀ i x,l[i]?=some x->p (n+i) x=false
 | [],_=>by simp [a0z]
 | x::l,n=>by
  cases h:p n x with
  | true =>
   simp only [a0z,h,if_true]
   constructor
   ·intro h;cases h
   ·intro hh;have:=hh 0 x rfl;rw [Nat.add_zero,h] at this;cases this
  | false =>
   have:=a2L (p:=p) (l:=l) (n:=n+1)
   simp only [a0z,h,Bool.false_eq_true,if_false]
   rw [this]
   constructor
   ·intro hh i y hy
    cases i with
    | zero=>simp at hy;subst hy;exact h
    | succ i=>have:=hh i y (by simpa using hy);rwa [show n+(i+1)=n+1+i by omega]
   ·intro hh i y hy
    have:=hh (i+1) y (by simpa using hy);rwa [show n+1+i=n+(i+1) by omega]
theorem a3F {α:Type} {p:Nat->α->Bool}:∀ {l:List α} {n:Nat} {i:Nat} {x:α},a0z p n l=some (i,x)->n<=i/\l[i - n]?=some x/\p i x=true/\∀ j y,j<i - n->l[j]?=some y->p (n+j) y=false
 | [],_,_,_,h=>by cases h
 | y::l,n,i,x,h=>by
  cases hp:p n y with
  | true =>
   simp only [a0z,hp,if_true,Option.some.injEq,Prod.mk.injEq] at h
   obtain ⟨rfl,rfl⟩:=h
   simp only [Nat.sub_self]
   exact ⟨Nat.le_refl _,rfl,hp,fun j y hj=>by omega⟩
  | false =>
   simp only [a0z,hp,Bool.false_eq_true,if_false] at h
   obtain ⟨h1,h2,h3,h4⟩:=a3F h
   refine ⟨by omega,?_,h3,?_⟩
   ·rw [show i - n=(i - (n+1))+1 by omega];simpa using h2
   ·intro j z hj hz
    cases j with
    | zero=>simp at hz;subst hz;exact hp
    | succ j =>
     have:=h4 j z (by omega) (by simpa using hz)
     rwa [show n+(j+1)=n+1+j by omega]
theorem a4L {Γ:Env} {α:Type} {keep:List Nat} {B:AC} (S:Nat->St) (l:List α) (p:Nat->α->Bool) (R:Nat->α->Ex × St) (T:Ex × St) (Q:Ex->St->Option β)
 (hstep:∀ (i:Nat) x,l[i]?=some x->p i x=false->E Γ B (S i) (fun e s1=>match e with | .norm=>trim keep (S i).h.length s1|_=>none)=some (S (i+1)))
 (hexit:∀ (i:Nat) x,l[i]?=some x->p i x=true->E Γ B (S i) (fun e s1=>match e with | .norm=>none|e=>some (e,s1))=some (R i x))
 (hend:E Γ B (S l.length) (fun e s1=>match e with | .norm=>none|e=>some (e,s1))=some T) :
 E Γ (.loop keep B) (S 0) Q=match a0z p 0 l with|some (i,x)=>Q (R i x).1 (R i x).2|none=>Q T.1 T.2:=by
 rw [b5G (fun i (_:Unit)=>S i) l (fun i _ x=>if p i x then .inr (R i x) else .inl ()) (fun _=>T) Q (fun i a x a' hx hf=>by
  cases h:p i x with
  | true=>simp [h] at hf
  | false=>exact hstep i x hx h) (fun i a x r hx hf=>by
  cases h:p i x with
  | true=>simp only [h,if_true,Sum.inr.injEq] at hf;subst hf;exact hexit i x hx h
  | false=>simp [h] at hf) (fun _=>hend) ()]
 have key:∀ (m:List α) (n:Nat),a4N (fun i (_:Unit) x=>if p i x then .inr (R i x) else .inl ()) (fun _=>T) n () m=match a0z p n m with|some (i,x)=>R i x|none=>T:=by
  intro m
  induction m with
  | nil=>intro n;rfl
  | cons x m ih =>
   intro n
   cases h:p n x with
   | true=>simp [a4N,a0z,h]
   | false=>simp only [a4N,a0z,h,Bool.false_eq_true,if_false];exact ih (n+1)
 rw [key]
 cases a0z p 0 l<;>rfl
theorem b0t {Γ:Env} {σ:Type} {keep:List Nat} {B:AC} (m:Nat) (S:Nat->σ->St) (I:Nat->σ->Prop) (T:σ->Ex × St) {Q:Ex->St->Option β} {r:Option β} (a:σ)
 (h0:I 0 a)
 (hstep:∀ i a,i<m->I i a->∃ a',I (i+1) a'/\E Γ B (S i a) (fun e s1=>match e with | .norm=>trim keep (S i a).h.length s1|_=>none)=some (S (i+1) a'))
 (hend:∀ a,I m a->E Γ B (S m a) (fun e s1=>match e with | .norm=>none|e=>some (e,s1))=some (T a))
 (hQ:∀ a,I m a->Q (T a).1 (T a).2=r):E Γ (.loop keep B) (S 0 a) Q=r:=by
 have main:∀ (j i:Nat) (a:σ),i+j=m->I i a->∃ b,I m b/\X Γ (.loop keep B) (S i a)=some (T b):=by
  intro j
  induction j with
  | zero =>
   intro i a hi hI
   obtain rfl:i=m:=by omega
   exact ⟨a,hI,a5y (hend a hI)⟩
  | succ j ih =>
   intro i a hi hI
   obtain ⟨a',hI',hE⟩:=hstep i a (by omega) hI
   obtain ⟨b,hb,hX⟩:=ih (i+1) a' (by omega) hI'
   exact ⟨b,hb,by rw [a8x hE];exact hX⟩
 obtain ⟨b,hb,hX⟩:=main m 0 a (by omega) h0
 rw [b3H hX]
 exact hQ b hb
theorem a4q {Γ:Env} {σ:Type} {keep:List Nat} {B:AC} (m:Nat) (S:Nat->σ->St) (I:Nat->σ->Prop) (T:σ->Ex × St) {Q:Ex->St->Option β} {r:Option β} {s0:St} (a:σ)
 (hs:s0=S 0 a) (h0:I 0 a)
 (hstep:∀ i a,i<m->I i a->∃ a',I (i+1) a'/\E Γ B (S i a) (fun e s1=>match e with | .norm=>trim keep (S i a).h.length s1|_=>none)=some (S (i+1) a'))
 (hend:∀ a,I m a->E Γ B (S m a) (fun e s1=>match e with | .norm=>none|e=>some (e,s1))=some (T a))
 (hQ:∀ a,I m a->Q (T a).1 (T a).2=r):E Γ (.loop keep B) s0 Q=r:=by
 subst hs;exact b0t m S I T a h0 hstep hend hQ
/-! ### Heaps of which the first part is not looked at -/
section
variable (h:List Obj) (l m:List Obj) (n p q k:Nat) (v:Obj)
theorem b2M (hp:p<h.length):(h++l)[p]?=h[p]?:=List.getElem?_append_left hp
theorem b2L (hn:h.length=n):(h++l)[n+k]?=l[k]?:=by rw [List.getElem?_append_right (by omega)];congr 1;omega
theorem b5P (hn:h.length=n):(h++l)[n]?=l[0]?:=b2L h l n 0 hn
theorem c0U (hp:p<h.length):(h++l).set p v=h.set p v++l:=List.set_append_left _ _ hp
theorem b5Q (hn:h.length=n):(h++l).set (n+k) v=h++l.set k v:=by rw [List.set_append_right _ _ (by omega)];congr 2;omega
theorem c0T (hn:h.length=n):(h++l).set n v=h++l.set 0 v:=b5Q h l n 0 v hn
theorem b8X (hn:h.length=n):(h++l).take (n+k)=h++l.take k:=by rw [List.take_append];simp [hn,List.take_of_length_le]
theorem b8W (hn:h.length=n):(h++l).take n=h:=by rw [List.take_append];simp [hn,List.take_of_length_le]
theorem b1c (hp:p<h.length):(h.set p v)[p]?=some v:=by simp [hp]
theorem a0E:(∀ {α:Type} (a b c:List α),a++b++c=a++(b++c))/\(∀ {α:Type} (a:α) (b c:List α),(a::b)++c=a::(b++c))/\(∀ {α:Type} (a:List α),[]++a=a)/\(∀ {α:Type} (a b:List α),(a++b).length=a.length+b.length) ∧
 (∀ {α:Type} (a:α) (b:List α),(a::b).length=b.length+1)/\(∀ {α:Type},([]:List α).length=0)/\(∀ {α:Type} (a:List α) (i:Nat) (x:α),(a.set i x).length=a.length) ∧
 (∀ (h l:List Obj) (p:Nat),p<h.length->(h++l)[p]?=h[p]?)/\(∀ (h l:List Obj) (n k:Nat),h.length=n->(h++l)[n+k]?=l[k]?)/\(∀ (h l:List Obj) (n:Nat),h.length=n->(h++l)[n]?=l[0]?) ∧
 (∀ (h l:List Obj) (p:Nat) (v:Obj),p<h.length->(h++l).set p v=h.set p v++l)/\(∀ (h l:List Obj) (n k:Nat) (v:Obj),h.length=n->(h++l).set (n+k) v=h++l.set k v)/\(∀ (h l:List Obj) (n:Nat) (v:Obj),h.length=n->(h++l).set n v=h++l.set 0 v) ∧
 (∀ (h l:List Obj) (n k:Nat),h.length=n->(h++l).take (n+k)=h++l.take k)/\(∀ (h l:List Obj) (n:Nat),h.length=n->(h++l).take n=h)/\(∀ (h:List Obj) (p:Nat) (v:Obj),p<h.length->(h.set p v)[p]?=some v) ∧
 (∀ {α:Type} (l:List α) (n:Nat) (a b:α),(l.set n a).set n b=l.set n b)/\(∀ {α:Type} (l m:List α) (f:α->Bool),(l++m).all f=(l.all f&&m.all f))/\(∀ a b c:Nat,a+b+c=a+(b+c)) ∧
 (∀ {α:Type} (a:α) (l:List α) (n:Nat),(a::l).take (n+1)=a::l.take n)/\(∀ {α:Type} (l:List α),l.take 0=[])/\(∀ {α:Type} (n:Nat),([]:List α).take n=[]) :=
 ⟨List.append_assoc,fun _ _ _=>rfl,fun _=>rfl,fun _ _=>List.length_append,fun _ _=>rfl,rfl,fun _ _ _=>List.length_set,b2M,b2L,b5P,fun h l p v=>c0U h l p v,fun h l n k v=>b5Q h l n k v,fun h l n v=>c0T h l n v,b8X,b8W,b1c,
  fun _ _ _ _=>List.set_set ..,fun _ _ _=>List.all_append,Nat.add_assoc,fun _ _ _=>rfl,fun _=>rfl,fun n=>by simp⟩
theorem a5B (hp:p≠q):(h.set p v)[q]?=h[q]?:=by simp [hp]
theorem a6R (f:Obj->Bool) (hh:h.all f=true) (hv:f v=true):(h.set p v).all f=true:=by
 simp only [List.all_eq_true] at *
 intro x hx
 rcases List.mem_or_eq_of_mem_set hx with hx|rfl
 ·exact hh x hx
 ·exact hv
end
mutual
theorem C.a4K {n m:Nat} (hnm:n<=m):∀ c:C,C.under n c=true->C.under m c=true
 | .ptr r _,h=>by simp only [C.under,decide_eq_true_eq] at *;omega
 | .map r,h=>by simp only [C.under,decide_eq_true_eq] at *;omega
 | .msl r _ _ _ _,h=>by simp only [C.under,decide_eq_true_eq] at *;omega
 | .stamp r _,h=>by simp only [C.under,decide_eq_true_eq] at *;omega
 | .fn f _ first cap,h=>by
  simp only [C.under,Bool.and_eq_true] at h ⊢
  refine ⟨⟨?_,C.a5F hnm first h.1.2⟩,C.a5F hnm cap h.2⟩
  cases f with
  | fn=>rfl
  | yield l=>have:=h.1.1;simp only [decide_eq_true_eq] at this ⊢;omega
 | .int ..,h=>by simp [C.under] at *
 | .bool ..,h=>by simp [C.under] at *
 | .str ..,h=>by simp [C.under] at *
 | .sl ..,h=>by simpa [C.under] using h
 | .own ..,h=>by simpa [C.under] using h
 | .imap ..,h=>by simpa [C.under] using h
 | .iset ..,h=>by simpa [C.under] using h
 | .eptr ..,h=>by simpa [C.under] using h
 | .nilf,h=>by simp [C.under] at *
 | .nilp,h=>by simp [C.under] at *
 | .nili,h=>by simp [C.under] at *
 | .top,h=>by simp [C.under] at *
theorem C.a5F {n m:Nat} (hnm:n<=m):∀ cs:List C,C.a0G n cs=true->C.a0G m cs=true
 | [],_=>rfl
 | c::cs,h=>by
  simp only [C.a0G,Bool.and_eq_true] at h ⊢
  exact ⟨C.a4K hnm c h.1,C.a5F hnm cs h.2⟩
end
mutual
theorem V.a4K {n m:Nat} (hnm:n<=m):∀ v:V,v.under n=true->v.under m=true
 | .sc c,h=>by simp only [V.under] at h ⊢;exact C.a4K hnm c h
 | .agg cs,h=>by simp only [V.under] at h ⊢;exact C.a5F hnm cs h
 | .tup vs,h=>by simp only [V.under] at h ⊢;exact V.b0r hnm vs h
theorem V.b0r {n m:Nat} (hnm:n<=m):∀ vs:List V,V.a2I n vs=true->V.a2I m vs=true
 | [],_=>by simp [V.a2I]
 | v::vs,h=>by
  simp only [V.a2I,Bool.and_eq_true] at h ⊢
  exact ⟨V.a4K hnm v h.1,V.b0r hnm vs h.2⟩
end
theorem Obj.a4K {n m:Nat} (hnm:n<=m) (o:Obj) (h:o.under n=true):o.under m=true:=by
 cases o with
 | var cs=>exact C.a5F hnm cs h
 | loop st pend t ps a b =>
  simp only [Obj.under,List.all_eq_true] at *
  intro x hx;exact V.a4K hnm _ (h x hx)
 | _=>rfl
theorem a0Q (h:List Obj) (n k:Nat) (hh:h.all (Obj.under n)=true):h.all (Obj.under (n+k))=true:=by
 simp only [List.all_eq_true] at *
 intro x hx;exact Obj.a4K (by omega) x (hh x hx)
/-! ### Lists that grow in a variable -/
def ownC (es:Nat) (L:List (List C)):C:=match L with | []=>.sl .nil es []|_::_=>.own false es L
theorem a2K (es:Nat) (L:List (List C)) (k:SK) (x:List C) (hr:L.length+1<=room):appended es (.sc (ownC es L)) (.sc (.sl k es [x]))=some (ownC es (L++[x])):=by
 cases L with
 | nil=>simp [ownC,appended,elems,room]
 | cons y L =>
  have:(y::L).length+1<=room:=hr
  simp only [List.length_cons] at this
  simp [ownC,appended,elems,this]
@[go_sem] theorem c3E (es:Nat) (L:List (List C)):(V.sc (ownC es L)).cells=[ownC es L]:=by cases L<;>rfl
@[go_sem] theorem c5Z (es:Nat) (L:List (List C)):(V.sc (ownC es L)).a0r=.sc (a0r (ownC es L)):=nrfl rfl
@[go_sem] theorem a7C (n es:Nat) (L:List (List C)):C.under n (ownC es L)=true:=by cases L<;>simp [ownC,C.under]
@[go_sem] theorem c3d (n:Nat) (c:C):C.under n (a0r c)=C.under n c:=by
 cases c with
 | own p es l=>cases p<;>simp [a0r,C.under]
 | _=>simp [a0r,C.under]
@[go_sem] theorem c0p (es:Nat) (L:List (List C)):C.pure (a0r (ownC es L))=true:=by cases L<;>simp [ownC,a0r,C.pure]
@[go_sem] theorem c0Q (b:Nat) (h:List Obj) (n es:Nat) (L:List (List C)):frz b h (n+1) (a0r (ownC es L))=some (a0r (ownC es L)):=by cases L<;>rfl
@[go_sem] theorem b0T (c:C):a0r (a0r c)=a0r c:=by
 cases c with
 | own p es l=>cases p<;>rfl
 | _=>rfl
theorem b1j {α:Type} (l:List α) (p:Nat) (v:α) (h:l[p]?=some v):l.set p v=l:=by
 apply List.ext_getElem?
 intro i
 rw [List.getElem?_set]
 split
 ·rename_i e;subst e
  split
  ·exact h.symm
  ·rename_i e;rw [List.getElem?_eq_none (by omega)]
 ·rfl
theorem b9A {α:Type} (l:List α) (p q:Nat) (x v r:α) (hpq:p≠q) (h:l[p]?=some r):((l.set p x).set q v).set p r=l.set q v:=by
 apply List.ext_getElem?
 intro i
 simp only [List.getElem?_set,List.length_set]
 by_cases h1:p=i
 ·subst h1
  have:p<l.length:=by
   rw [List.getElem?_eq_some_iff] at h;exact h.1
  have h2:¬ q=p:=fun e=>hpq e.symm
  have h3:l[p]=r:=by rw [List.getElem?_eq_getElem this] at h;exact Option.some.inj h
  simp [h2,this,h3]
 ·simp [h1]
theorem a2H {α β:Type} (g:α->List β) (m:Nat):∀ (l:List α),(∀ x,x∈l->(g x).length<=m)->(l.flatMap g).length<=l.length*m
 | [],_=>by simp
 | x::l,h=>by
  have h1:=h x (by simp)
  have h2:=a2H g m l (fun y hy=>h y (by simp [hy]))
  simp only [List.flatMap_cons,List.length_append,List.length_cons,Nat.add_mul,Nat.one_mul]
  omega
theorem a9r (c:C) (h:c.pure=true):a0r c=c:=by cases c<;>simp_all [a0r,C.pure]
/-! Numbers in places. -/
def iv (t:List Int):List C:=t.map fun n=>.int .i64 n
section
variable (t:List Int)
@[go_sem] theorem d0B:(iv t).length=t.length:=by simp [iv]
theorem b5U:C.a0v (iv t)=true:=by
 induction t with
 | nil=>rfl
 | cons n t ih=>exact ih
@[go_sem] theorem c8u:C.a0v (iv t)=true:=b5U t
@[go_sem] theorem c8v (n:Nat):C.a0G n (iv t)=true:=a0C n _ (b5U t)
@[go_sem] theorem d1c:(iv t).map a0r=iv t:=by simp [iv,a0r,Function.comp_def]
@[go_sem] theorem d0C (i:Nat) (v:Int):(iv t).set i (.int .i64 v)=iv (t.set i v):=by simp [iv,List.map_set]
theorem e9e:∀ (cs:List C),a0R cs 0 cs.length=some cs
 | []=>rfl
 | c::cs=>by rw [List.length_cons,c1T,e9e cs];rfl
theorem e7O (n:Nat) (h:t.length=n):a0R (iv t) 0 n=some (iv t):=by
 have:=e9e (iv t);rwa [d0B,h] at this
theorem f1S (i:Nat) (h:i<t.length):(iv t)[i]?=some (.int .i64 (t.getD i 0)):=by simp [iv,List.getD,List.getElem?_eq_getElem h]
end
/-! ### Maps -/
def looked (h:List Obj) (ok:Bool) (ty:KT) (z key m:V):Option V :=
 match entries h ok ty z key m with
 | none=>none
 | some (ka,va,l)=>if fits ty key=false\/ka≠ty.agg\/z.isAgg≠va then none else match find ty.tags key.cells 0 l with
  | some (some (_,cs))=>(a7I va cs).map fun v=>if ok then .tup [v,.sc (.bool true)] else v
  | some none=>some (if ok then .tup [z,.sc (.bool false)] else z)
  | none=>none
@[go_sem] theorem c6f (base:Nat) (d:Option Nat) (t:List (Nat × V)) (h:List Obj) (k:St->Option β) (ok:Bool) (ty:KT) (z:V) (m key:Rand) :
 P1 Γ base d (.lookup ok ty z m key) ⟨t,h⟩ k=a0L (looked h ok ty z (rd Γ t key) (rd Γ t m)) fun v=>k ⟨put1 d v t,h⟩:=by
 simp only [P1,perform,eff,looked]
 cases entries h ok ty z (rd Γ t key) (rd Γ t m) with
 | none=>rfl
 | some q =>
  obtain ⟨ka,va,l⟩:=q
  simp only
  by_cases hc:fits ty (rd Γ t key)=false\/ka≠ty.agg\/z.isAgg≠va
  ·simp only [if_pos hc];rfl
  ·simp only [if_neg hc]
   cases find ty.tags (rd Γ t key).cells 0 l with
   | none=>rfl
   | some q=>cases q with
    | none=>rfl
    | some q =>
     obtain ⟨i,cs⟩:=q
     simp only
     cases a7I va cs<;>rfl
/-! Maps from two numbers to a number. -/
def enc2 (l:List (Int × Int × Int)):List (List C × List C):=l.map fun e=>([.int .i64 e.1,.int .i64 e.2.1],[.int .i64 e.2.2])
theorem b4h (l:List (Int × Int × Int)):(enc2 l).length=l.length:=by simp [enc2]
def has2:List (Int × Int × Int)->Int->Int->Bool
 | [],_,_=>false
 | e::l,a,b=>(decide (a=e.1)&&decide (b=e.2.1))||has2 l a b
def got2:List (Int × Int × Int)->Int->Int->Int
 | [],_,_=>0
 | e::l,a,b=>if a=e.1/\b=e.2.1 then e.2.2 else got2 l a b
def idx2:List (Int × Int × Int)->Int->Int->Nat
 | [],_,_=>0
 | e::l,a,b=>if a=e.1/\b=e.2.1 then 0 else idx2 l a b+1
def put2:List (Int × Int × Int)->Int->Int->Int->List (Int × Int × Int)
 | [],a,b,v=>[(a,b,v)]
 | e::l,a,b,v=>if a=e.1/\b=e.2.1 then (e.1,e.2.1,v)::l else e::put2 l a b v
theorem b4A (a b c d:Int):a0c [1,1] [.int .i64 a,.int .i64 b] [.int .i64 c,.int .i64 d]=some (decide (a=c)&&decide (b=d)):=by
 simp [a0c,a0g]
 rfl
theorem b3P (a b:Int):∀ (l:List (Int × Int × Int)) (n:Nat),find [1,1] [.int .i64 a,.int .i64 b] n (enc2 l)=some (if has2 l a b then some (n+idx2 l a b,[.int .i64 (got2 l a b)]) else none)
 | [],n=>rfl
 | e::l,n=>by
  show (match a0c [1,1] [.int .i64 a,.int .i64 b] [.int .i64 e.1,.int .i64 e.2.1] with|some true=>some (some (n,[C.int .i64 e.2.2]))|some false=>find [1,1] [.int .i64 a,.int .i64 b] (n+1) (enc2 l)|none=>none)=_
  rw [b4A]
  by_cases h:a=e.1/\b=e.2.1
  ·simp [has2,got2,idx2,h]
  ·have h':(decide (a=e.1)&&decide (b=e.2.1))=false:=by
    rw [Bool.eq_false_iff];simpa using h
   simp only [h',has2,got2,idx2,if_neg h,Bool.false_or]
   rw [b3P a b l (n+1)]
   cases has2 l a b<;>simp<;>omega
theorem b5M:∀ (l:List (Int × Int × Int)) (a b:Int),has2 l a b=false->got2 l a b=0
 | [],_,_,_=>rfl
 | e::l,a,b,h=>by
  simp only [has2,Bool.or_eq_false_iff] at h
  have:¬ (a=e.1/\b=e.2.1):=by simpa using h.1
  simp only [got2,if_neg this]
  exact b5M l a b h.2
theorem b5R:∀ (l:List (Int × Int × Int)) (a b:Int),has2 l a b=true->idx2 l a b<l.length
 | [],_,_,h=>by cases h
 | e::l,a,b,h=>by
  by_cases h2:a=e.1/\b=e.2.1
  ·simp [idx2,h2]
  ·have h':(decide (a=e.1)&&decide (b=e.2.1))=false:=by rw [Bool.eq_false_iff];simpa using h2
   simp only [has2,h',Bool.false_or] at h
   simp only [idx2,if_neg h2,List.length_cons]
   have:=b5R l a b h
   omega
theorem b4Q:∀ (l:List (Int × Int × Int)) (a b v:Int),has2 l a b=true->setAt (idx2 l a b) [.int .i64 v] (enc2 l)=enc2 (put2 l a b v)
 | [],_,_,_,h=>by cases h
 | e::l,a,b,v,h=>by
  by_cases h2:a=e.1/\b=e.2.1
  ·simp [idx2,put2,h2,enc2,setAt]
  ·have h':(decide (a=e.1)&&decide (b=e.2.1))=false:=by rw [Bool.eq_false_iff];simpa using h2
   simp only [has2,h',Bool.false_or] at h
   have:=b4Q l a b v h
   simp only [idx2,put2,if_neg h2]
   simp only [setAt,enc2,List.map_cons,List.getElem?_cons_succ,List.set_cons_succ] at this ⊢
   split at this<;>simp_all
theorem b6j:∀ (l:List (Int × Int × Int)) (a b v:Int),has2 l a b=false->enc2 l++[([.int .i64 a,.int .i64 b],[.int .i64 v])]=enc2 (put2 l a b v)
 | [],_,_,_,_=>rfl
 | e::l,a,b,v,h=>by
  simp only [has2,Bool.or_eq_false_iff] at h
  have h2:¬ (a=e.1/\b=e.2.1):=by simpa using h.1
  have:=b6j l a b v h.2
  simp only [put2,if_neg h2]
  simp only [enc2,List.map_cons,List.cons_append] at this ⊢
  rw [this]
@[go_sem] theorem c2h (h:List Obj) (l:List (Int × Int × Int)) (a b:Int) :
 looked h false ⟨true,[1,1]⟩ (.sc (.int .i64 0)) (.agg [.int .i64 a,.int .i64 b]) (.sc (.imap true false (enc2 l)))=some (.sc (.int .i64 (got2 l a b))):=by
 have:=b3P a b l 0
 simp only [looked,entries,fits,V.isAgg,V.cells,this,List.length_cons,List.length_nil]
 cases hh:has2 l a b with
 | true=>simp [a7I]
 | false=>simp [b5M l a b hh]
def b2R (o:Option Obj) (ok:Bool) (ty:KT) (z key:V):Option V:=looked [o.getD .dead] ok ty z key (.sc (.map 0))
@[go_sem] theorem c3O (h:List Obj) (p:Nat) (ok:Bool) (ty:KT) (z key:V):looked h ok ty z key (.sc (.map p))=b2R (h[p]?) ok ty z key:=by
 simp only [looked,b2R,entries]
 cases h[p]? with
 | none=>rfl
 | some o=>cases o<;>rfl
@[go_sem] theorem c3N (ka va:Bool) (l:List (List C × List C)) (ok:Bool) (ty:KT) (z key:V):b2R (some (.map ka va l none)) ok ty z key=looked [] ok ty z key (.sc (.imap ka va l)):=nrfl rfl
def b0z (o:Option Obj) (ty:KT) (z key:V) (p:Nat) (h:List Obj) (f:V->List Obj->Option β) (_:Tag f:=.mk):Option β :=
 match o with
 | some (.map ka va l none)=>if fits ty key=false\/ka≠ty.agg\/proper va z=false then none else match find ty.tags key.cells 0 l with
  | some (some (i,_))=>f (.tup [.sc .top,.sc (.stamp p i)]) h
  | some none=>if C.a0v key.cells/\C.a0v z.cells then f (.tup [.sc .top,.sc (.stamp p l.length)]) (h.set p (.map ka va l (some (key.cells,z.cells)))) else none
  | none=>none
 | _=>none
def b6K (m:V) (f:Nat->Option β) (_:Tag f:=.mk):Option β:=match m with | .sc (.map p)=>f p|_=>none
@[go_sem] theorem b4L (p:Nat) (f:Nat->Option β):b6K (.sc (.map p)) f=f p:=nrfl rfl
@[go_sem] theorem c6F (l:List (Int × Int × Int)) (a b:Int) (p:Nat) (h:List Obj) (f:V->List Obj->Option β) (hh:has2 l a b=true) :
 b0z (some (.map true false (enc2 l) none)) ⟨true,[1,1]⟩ (.sc (.int .i64 0)) (.agg [.int .i64 a,.int .i64 b]) p h f=f (.tup [.sc .top,.sc (.stamp p (idx2 l a b))]) h:=by
 have:=b3P a b l 0
 simp [b0z,fits,V.isAgg,V.cells,proper,this,hh]
@[go_sem] theorem c8w (l:List (Int × Int × Int)) (a b:Int) (p:Nat) (h:List Obj) (f:V->List Obj->Option β) (hh:has2 l a b=false) :
 b0z (some (.map true false (enc2 l) none)) ⟨true,[1,1]⟩ (.sc (.int .i64 0)) (.agg [.int .i64 a,.int .i64 b]) p h f =
  f (.tup [.sc .top,.sc (.stamp p l.length)]) (h.set p (.map true false (enc2 l) (some ([.int .i64 a,.int .i64 b],[.int .i64 0])))):=by
 have:=b3P a b l 0
 simp [b0z,fits,V.isAgg,V.cells,proper,this,hh,C.a0v,C.pure,b4h]
def a7F (o:Option Obj) (p:Nat) (s v:V) (f:Obj->Option β) (_:Tag f:=.mk):Option β :=
 match o,s with
 | some (.map ka va l ph),.sc (.stamp q i)=>if p≠q then none else if C.a0v v.cells/\proper va v then
  match ph with
  | none=>if i<l.length then f (.map ka va (setAt i v.cells l) none) else none
  | some (k,_)=>if i=l.length then f (.map ka va (l++[(k,v.cells)]) none) else none
  else none
 | _,_=>none
@[go_sem] theorem c2I (l:List (Int × Int × Int)) (a b n:Int) (p:Nat) (f:Obj->Option β) (hh:has2 l a b=true) :
 a7F (some (.map true false (enc2 l) none)) p (.sc (.stamp p (idx2 l a b))) (.sc (.int .i64 n)) f=f (.map true false (enc2 (put2 l a b n)) none):=by
 have h1:=b5R l a b hh
 have h2:=b4Q l a b n hh
 simp [a7F,C.a0v,C.pure,V.cells,proper,V.isAgg,h1,h2,b4h]
@[go_sem] theorem c3H (l:List (Int × Int × Int)) (a b n:Int) (z:List C) (p:Nat) (f:Obj->Option β) (hh:has2 l a b=false) :
 a7F (some (.map true false (enc2 l) (some ([.int .i64 a,.int .i64 b],z)))) p (.sc (.stamp p l.length)) (.sc (.int .i64 n)) f=f (.map true false (enc2 (put2 l a b n)) none):=by
 have h2:=b6j l a b n hh
 have h3:l.length=(enc2 l).length:=by simp [enc2]
 simp only [a7F,C.a0v,C.pure,V.cells,proper,V.isAgg,ne_eq,not_true_eq_false,if_false, ← h2]
 simp [h3]
/-! ### Loops over functions -/
def a8i (o:Option Obj) (f:Ex->Option β) (_:Tag f:=.mk):Option β :=
 match o with
 | some (.loop st pend _ _ _ _)=>if st=.busy then none else f (pend.getD .norm)
 | _=>none
@[go_sem] theorem c0l (t:List (Nat × V)) (ps:List Nat) (a b:AC) (f:Ex->Option β):a8i (some (.loop .ready none t ps a b)) f=f .norm:=nrfl rfl
@[go_sem] theorem c1f (e:Ex) (t:List (Nat × V)) (ps:List Nat) (a b:AC) (f:Ex->Option β):a8i (some (.loop .done (some e) t ps a b)) f=f e:=nrfl rfl
def onFk (k:Fk) (x:Option β) (_:Tag x:=.mk):Option β:=match k with | .fn _=>x|_=>none
@[go_sem] theorem c1e (id:Nat) (x:Option β):onFk (.fn id) x=x:=nrfl rfl
@[go_sem] theorem c8Y (f:Rand) (ps:List Nat) (a b:AC) (t:List (Nat × V)) (h:List Obj) (Q:Ex->St->Option β) :
 E Γ (.rfunc f ps a b) ⟨t,h⟩ Q=a0L (target (rd Γ t f) [.sc (.fn (.yield h.length) [] [] [])]) fun q=>onFk q.1 (a0L (K Γ q.1 q.2 (h++[.loop .ready none (a3i t) ps a b])) fun r =>
  a8i (r.2[h.length]?) fun e=>br ((r.2.take h.length).all (Obj.under h.length)) (Q e ⟨t,r.2.take h.length⟩) none):=by
 unfold E
 rw [X_eq]
 simp only [a0U]
 cases target (rd Γ t f) [.sc (.fn (.yield h.length) [] [] [])] with
 | none=>rfl
 | some q =>
  obtain ⟨fk,vs⟩:=q
  cases fk with
  | yield l=>rfl
  | fn id =>
   simp only [a1K,c1e]
   cases K Γ (.fn id) vs (h++[.loop .ready none (a3i t) ps a b]) with
   | none=>rfl
   | some r =>
    obtain ⟨v,h'⟩:=r
    simp only [a1K,a8i]
    cases h'[h.length]? with
    | none=>rfl
    | some o=>cases o with
     | loop st pend t' ps' a' b' =>
      simp only
      by_cases hb:st=.busy
      ·simp only [if_pos hb];rfl
      ·simp only [if_neg hb]
       cases hc:(h'.take h.length).all (Obj.under h.length) with
       | true=>simp [andThen]
       | false=>simp [andThen]
     | _=>rfl
def b0D (o:Option Obj) (f:List (Nat × V)->List Nat->AC->AC->Option β) (_:Tag f:=.mk):Option β:=match o with|some (.loop .ready none t ps a b)=>f t ps a b|_=>none
@[go_sem] theorem c5o (t:List (Nat × V)) (ps:List Nat) (a b:AC) (f:List (Nat × V)->List Nat->AC->AC->Option β):b0D (some (.loop .ready none t ps a b)) f=f t ps a b:=nrfl rfl
def b2i (o:Option Obj) (f:List (Nat × V)->List Nat->AC->AC->Option β) (_:Tag f:=.mk):Option β:=match o with|some (.loop .busy _ t ps a b)=>f t ps a b|_=>none
@[go_sem] theorem c6J (t:List (Nat × V)) (ps:List Nat) (a b:AC) (f:List (Nat × V)->List Nat->AC->AC->Option β):b2i (some (.loop .busy none t ps a b)) f=f t ps a b:=nrfl rfl
def stOf (e:Ex):LS:=if e=.norm then .ready else .done
def a8T (e:Ex):Option Ex:=if e=.norm then none else some e
@[go_sem] theorem c7h:stOf .norm=.ready:=nrfl rfl
@[go_sem] theorem c2Q:a8T .norm=none:=nrfl rfl
@[go_sem] theorem c8N:stOf .ret=.done:=nrfl rfl
@[go_sem] theorem c5r:a8T .ret=some .ret:=nrfl rfl
@[go_sem] theorem c7g (n:Nat):stOf (.exit n)=.done:=nrfl rfl
@[go_sem] theorem c2P (n:Nat):a8T (.exit n)=some (.exit n):=nrfl rfl
@[go_sem] theorem c1o (p:Nat) (ps:List Nat) (v:V) (vs:List V) (t:List (Nat × V)):a2D (p::ps) (v::vs) t=a2D ps vs ((p,v)::t):=nrfl rfl
@[go_sem] theorem c1J (vs:List V) (t:List (Nat × V)):a2D [] vs t=t:=by cases vs<;>rfl
@[go_sem] theorem c2A (p:Nat × V) (t:List (Nat × V)):a3i (p::t)=(p.1,p.2.a0r)::a3i t:=nrfl rfl
@[go_sem] theorem c3i:a3i []=[]:=nrfl rfl
theorem c0y (l:Nat) (vs:List V) (h:List Obj):K Γ (.yield l) vs h=b0D (h[l]?) fun t ps a b=>br (decide (vs.length=ps.length)) (E Γ a ⟨a2D ps vs t,h⟩ fun e s=>match e with
 | .norm=>b0D (s.h[l]?) fun t1 ps1 a1 b1=>E Γ b ⟨s.t,s.h.set l (.loop .busy none t1 ps1 a1 b1)⟩ fun e s=>b2i (s.h[l]?) fun t' ps' a' b' =>
  br (((s.h.set l (.loop (stOf e) (a8T e) t' ps' a' b')).take h.length).all (Obj.under h.length)) (some (.sc (.bool (decide (e=.norm))),(s.h.set l (.loop (stOf e) (a8T e) t' ps' a' b')).take h.length)) none
 | _=>none) none:=by
 rw [K_eq]
 simp only [a3D,b0D]
 cases h[l]? with
 | none=>rfl
 | some o=>cases o with
  | loop st pend t ps a b =>
   cases st with
   | ready=>cases pend with
    | some _=>rfl
    | none =>
     simp only
     by_cases hl:vs.length=ps.length
     ·simp only [hl,ne_eq,not_true_eq_false,if_false,decide_true,a4R]
      unfold E andThen
      cases X Γ a { t:=a2D ps vs t,h:=h } with
      | none=>rfl
      | some r =>
       obtain ⟨e,s⟩:=r
       cases e with
       | norm =>
        simp only
        cases s.h[l]? with
        | none=>rfl
        | some o=>cases o with
         | loop st1 pend1 t1 ps1 a1 b1 =>
          cases st1 with
          | ready=>cases pend1 with
           | some _=>rfl
           | none =>
            simp only
            cases X Γ b { t:=s.t,h:=s.h.set l (.loop .busy none t1 ps1 a1 b1) } with
            | none=>rfl
            | some r =>
             obtain ⟨e,s2⟩:=r
             simp only [b2i]
             cases s2.h[l]? with
             | none=>rfl
             | some o=>cases o with
              | loop st2 pend2 t2 ps2 a2 b2 =>
               cases st2 with
               | busy =>
                simp only [stOf,a8T]
                cases hc:((s2.h.set l (.loop (if e=.norm then .ready else .done) (if e=.norm then none else some e) t2 ps2 a2 b2)).take h.length).all (Obj.under h.length) with
                | true=>simp
                | false=>simp
               | _=>rfl
              | _=>rfl
          | _=>rfl
         | _=>rfl
       | _=>rfl
     ·simp only [hl,ne_eq,not_false_eq_true,if_true,decide_false,a4r]
   | _=>rfl
  | _=>rfl
end
end Go.Pm

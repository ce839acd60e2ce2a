/- The statement StrainEnds, part 5. -/
import Derived.Test.YtjmjifbnckecjaaDoorW1
import Derived.Attr
set_option linter.all false
set_option maxRecDepth 100000
namespace Go.Pm.Ac
open Go.Pm
def d3Z : AC :=
 (.seq (.seq (.region 0 [
 ⟨0, some 120, .mv (.t 13), none, []⟩,
 ⟨1, some 121, .mv (.t 12), none, []⟩,
 ⟨2, some 122, .len 1 (.t 121), none, []⟩,
 ⟨3, some 123, .bin .lss (.t 120) (.t 122), none, []⟩] false [2, 5, 6, 7, 8, 10, 12, 13, 123])
 (.cond (.t 123)
 (.skip)
 (.exit 0)))
 (.seq (.block 1 (.seq (.seq (.region 0 [
 ⟨0, some 126, .mv (.t 12), none, []⟩,
 ⟨1, some 127, .mv (.t 13), none, []⟩,
 ⟨2, some 128, .iaddr 1 (.t 126) (.t 127), none, []⟩,
 ⟨3, some 129, .load none (.t 128), none, []⟩,
 ⟨4, some 130, .call true (.f 29) [.t 129, .k (.sc (.int .i64 (-150))), .k (.sc (.int .i64 30))], none, []⟩,
 ⟨5, some 131, .un .not (.t 130), none, []⟩] false [2, 5, 6, 7, 8, 10, 12, 13, 131])
 (.cond (.t 131)
 (.exit 1)
 (.skip)))
 (.seq (.region 0 [
 ⟨0, some 133, .load (some 10) (.t 2), none, []⟩,
 ⟨1, some 134, .mv (.t 5), none, []⟩,
 ⟨2, some 135, .mv (.t 6), none, []⟩,
 ⟨3, some 136, .mv (.t 12), none, []⟩,
 ⟨4, some 137, .mv (.t 13), none, []⟩,
 ⟨5, some 138, .iaddr 1 (.t 136) (.t 137), none, []⟩,
 ⟨6, some 139, .load none (.t 138), none, []⟩,
 ⟨7, some 140, .build [.int .i64 0, .int .i64 0, .int .i64 0, .int .i64 0] [(0, 1, .t 134), (1, 1, .t 135), (2, 1, .t 139)], none, []⟩,
 ⟨8, some 141, .call true (.f 141) [.t 133, .t 140], none, []⟩,
 ⟨9, some 132, .mv (.t 141), none, []⟩,
 ⟨10, some 142, .ext (.t 132) 0, none, []⟩,
 ⟨11, some 143, .ext (.t 132) 1, none, []⟩,
 ⟨12, some 14, .mv (.t 142), none, []⟩,
 ⟨13, some 15, .mv (.t 143), none, []⟩] true [2, 5, 6, 7, 8, 10, 12, 13, 14, 15])
 (.seq (.region 0 [
 ⟨0, some 144, .mv (.t 15), none, []⟩,
 ⟨1, some 145, .bin .neq (.t 144) (.k (.sc (.int .i64 0))), none, []⟩,
 ⟨2, some 146, .mv (.t 145), none, []⟩,
 ⟨3, some 147, .mv (.t 13), some (146, false), []⟩,
 ⟨4, some 148, .bin .lss (.t 147) (.k (.sc (.int .i64 2))), some (146, false), []⟩,
 ⟨5, some 149, .mv (.t 148), some (146, false), []⟩,
 ⟨6, some 150, .mv (.t 14), some (149, true), []⟩,
 ⟨7, some 151, .un .not (.t 150), some (149, true), []⟩,
 ⟨8, some 152, .pick (.t 149) (.t 151) (.k (.sc (.bool false))), some (146, false), []⟩,
 ⟨9, some 153, .pick (.t 146) (.k (.sc (.bool true))) (.t 152), none, []⟩,
 ⟨10, some 154, .mv (.t 153), none, []⟩,
 ⟨11, some 155, .mv (.t 14), some (154, false), []⟩,
 ⟨12, some 156, .mv (.t 155), some (154, false), []⟩,
 ⟨13, some 157, .load (some 2) (.t 8), some (156, true), []⟩,
 ⟨14, some 158, .mv (.t 12), some (156, true), []⟩,
 ⟨15, some 159, .mv (.t 13), some (156, true), []⟩,
 ⟨16, some 160, .iaddr 1 (.t 158) (.t 159), some (156, true), []⟩,
 ⟨17, some 161, .load none (.t 160), some (156, true), []⟩,
 ⟨18, some 162, .call true (.f 28) [.t 157, .t 161], some (156, true), []⟩,
 ⟨19, some 163, .un .not (.t 162), some (156, true), []⟩,
 ⟨20, some 164, .pick (.t 156) (.t 163) (.k (.sc (.bool false))), some (154, false), []⟩,
 ⟨21, some 165, .pick (.t 154) (.k (.sc (.bool true))) (.t 164), none, []⟩] true [2, 5, 6, 7, 8, 10, 12, 13, 165])
 (.cond (.t 165)
 (.seq (.region 0 [
 ⟨0, some 4, .mv (.k (.sc (.bool false))), none, []⟩] false [4])
 (.ret))
 (.skip))))))
 (.region 0 [
 ⟨0, some 124, .mv (.t 13), none, []⟩,
 ⟨1, some 125, .bin .add (.t 124) (.k (.sc (.int .i64 1))), none, []⟩,
 ⟨2, some 13, .mv (.t 125), none, []⟩] false [2, 5, 6, 7, 8, 10, 12, 13])))
def d4e : AC := .loop [2, 5, 6, 7, 8, 10, 12, 13] d3Z
def d4b : AC :=
 (.seq (.seq (.region 0 [
 ⟨0, some 166, .mv (.t 16), none, []⟩,
 ⟨1, some 167, .bin .lss (.t 166) (.k (.sc (.int .i64 2))), none, []⟩] false [2, 7, 10, 16, 167])
 (.cond (.t 167)
 (.skip)
 (.exit 2)))
 (.seq (.block 3 (.seq (.region 1 [
 ⟨0, some 170, .load (some 10) (.t 2), none, []⟩,
 ⟨1, some 17, .alloc 0 [.sl .nil 2 [], .int .i64 0, .int .i64 0, .int .i64 0, .int .i64 0, .int .i64 0, .int .i64 0, .sl .nil 3 [], .sl .nil 2 [], .sl .nil 4 []], none, []⟩,
 ⟨2, none, .store 10 (.t 17) (.t 170), none, []⟩] false [2, 7, 10, 16, 17])
 (.seq (.region 0 [
 ⟨0, some 171, .mv (.t 7), none, []⟩,
 ⟨1, some 172, .faddr 0 (.t 10), none, []⟩,
 ⟨2, some 173, .load none (.t 172), none, []⟩,
 ⟨3, some 174, .faddr 1 (.t 10), none, []⟩,
 ⟨4, some 175, .load none (.t 174), none, []⟩,
 ⟨5, some 176, .bslice 1 2 [.int .i64 0] [(0, .t 173), (1, .t 175)], none, []⟩,
 ⟨6, some 177, .mv (.t 16), none, []⟩,
 ⟨7, some 178, .iaddr 1 (.t 176) (.t 177), none, []⟩,
 ⟨8, some 179, .load none (.t 178), none, []⟩,
 ⟨9, some 180, .call true (.f 30) [.t 179], none, []⟩,
 ⟨10, some 181, .faddr 1 (.t 17), none, []⟩,
 ⟨11, some 182, .iarr 3 2 (.t 181) (.t 171), none, []⟩,
 ⟨12, none, .store 2 (.t 182) (.t 180), none, []⟩] false [2, 7, 10, 16, 17])
 (.seq (.region 0 [
 ⟨0, some 184, .load (some 10) (.t 17), none, []⟩,
 ⟨1, some 185, .call true (.f 209) [.t 184], none, []⟩,
 ⟨2, some 183, .mv (.t 185), none, []⟩,
 ⟨3, some 186, .ext (.t 183) 0, none, []⟩,
 ⟨4, some 187, .ext (.t 183) 1, none, []⟩,
 ⟨5, some 18, .mv (.t 186), none, []⟩,
 ⟨6, some 19, .mv (.t 187), none, []⟩] false [2, 7, 10, 16, 18, 19])
 (.seq (.region 0 [
 ⟨0, some 188, .mv (.t 19), none, []⟩,
 ⟨1, some 189, .bin .neq (.t 188) (.k (.sc (.int .i64 0))), none, []⟩,
 ⟨2, some 190, .mv (.t 189), none, []⟩,
 ⟨3, some 191, .mv (.t 18), some (190, false), []⟩,
 ⟨4, some 192, .un .not (.t 191), some (190, false), []⟩,
 ⟨5, some 193, .pick (.t 190) (.k (.sc (.bool true))) (.t 192), none, []⟩] false [2, 7, 10, 16, 193])
 (.cond (.t 193)
 (.seq (.region 0 [
 ⟨0, some 4, .mv (.k (.sc (.bool false))), none, []⟩] false [4])
 (.ret))
 (.skip)))))))
 (.region 0 [
 ⟨0, some 168, .mv (.t 16), none, []⟩,
 ⟨1, some 169, .bin .add (.t 168) (.k (.sc (.int .i64 1))), none, []⟩,
 ⟨2, some 16, .mv (.t 169), none, []⟩] false [2, 7, 10, 16])))
def d4c : AC := .loop [2, 7, 10, 16] d4b
def d4a : Fn := ⟨2, 195, [(4, none)],
 (.seq (.region 2 [
 ⟨0, some 2, .box 0 (.t 0), none, []⟩,
 ⟨1, some 3, .box 1 (.t 1), none, []⟩,
 ⟨2, some 4, .mv (.k (.sc (.bool false))), none, []⟩] false [2, 3])
 (.seq (.seq (.region 0 [
 ⟨0, some 20, .load (some 10) (.t 2), none, []⟩,
 ⟨1, some 21, .call true (.f 204) [.t 20], none, []⟩,
 ⟨2, some 22, .un .not (.t 21), none, []⟩,
 ⟨3, some 23, .mv (.t 22), none, []⟩,
 ⟨4, some 24, .faddr 9 (.t 2), some (23, false), []⟩,
 ⟨5, some 25, .load none (.t 24), some (23, false), []⟩,
 ⟨6, some 26, .len 1 (.t 25), some (23, false), []⟩,
 ⟨7, some 27, .bin .eql (.t 26) (.k (.sc (.int .i64 4))), some (23, false), []⟩,
 ⟨8, some 28, .pick (.t 23) (.k (.sc (.bool true))) (.t 27), none, []⟩] false [2, 3, 28])
 (.cond (.t 28)
 (.seq (.region 0 [
 ⟨0, some 29, .call true (.f 110) [], none, []⟩,
 ⟨1, some 4, .mv (.t 29), none, []⟩] false [4])
 (.ret))
 (.skip)))
 (.seq (.region 0 [
 ⟨0, some 30, .iarr 4 1 (.t 3) (.k (.sc (.int .i64 0))), none, []⟩,
 ⟨1, some 31, .load none (.t 30), none, []⟩,
 ⟨2, some 32, .faddr 0 (.t 2), none, []⟩,
 ⟨3, some 33, .load none (.t 32), none, []⟩,
 ⟨4, some 34, .len 1 (.t 33), none, []⟩,
 ⟨5, some 35, .call true (.f 27) [.t 31, .t 34], none, []⟩,
 ⟨6, some 36, .iarr 4 1 (.t 3) (.k (.sc (.int .i64 1))), none, []⟩,
 ⟨7, some 37, .load none (.t 36), none, []⟩,
 ⟨8, some 38, .faddr 7 (.t 2), none, []⟩,
 ⟨9, some 39, .load none (.t 38), none, []⟩,
 ⟨10, some 40, .len 1 (.t 39), none, []⟩,
 ⟨11, some 41, .call true (.f 27) [.t 37, .t 40], none, []⟩,
 ⟨12, some 42, .iarr 4 1 (.t 3) (.k (.sc (.int .i64 2))), none, []⟩,
 ⟨13, some 43, .load none (.t 42), none, []⟩,
 ⟨14, some 44, .call true (.f 27) [.t 43, .k (.sc (.int .i64 3))], none, []⟩,
 ⟨15, some 5, .mv (.t 35), none, []⟩,
 ⟨16, some 6, .mv (.t 41), none, []⟩,
 ⟨17, some 7, .mv (.t 44), none, []⟩] true [2, 3, 5, 6, 7])
 (.seq (.region 1 [
 ⟨0, some 46, .load (some 10) (.t 2), none, []⟩,
 ⟨1, some 47, .mv (.t 5), none, []⟩,
 ⟨2, some 48, .mv (.t 6), none, []⟩,
 ⟨3, some 49, .call true (.f 135) [.t 46, .t 47, .t 48], none, []⟩,
 ⟨4, some 45, .mv (.t 49), none, []⟩,
 ⟨5, some 50, .ext (.t 45) 0, none, []⟩,
 ⟨6, some 51, .ext (.t 45) 1, none, []⟩,
 ⟨7, some 8, .alloc 0 [.int .i64 0, .int .i64 0], none, []⟩,
 ⟨8, none, .store 2 (.t 8) (.t 50), none, []⟩,
 ⟨9, some 9, .mv (.t 51), none, []⟩] false [2, 3, 5, 6, 7, 8, 9])
 (.seq (.region 1 [
 ⟨0, some 53, .load (some 10) (.t 2), none, []⟩,
 ⟨1, some 54, .mv (.t 7), none, []⟩,
 ⟨2, some 55, .call true (.f 137) [.t 53, .t 54], none, []⟩,
 ⟨3, some 52, .mv (.t 55), none, []⟩,
 ⟨4, some 56, .ext (.t 52) 0, none, []⟩,
 ⟨5, some 57, .ext (.t 52) 1, none, []⟩,
 ⟨6, some 10, .alloc 0 [.int .i64 0, .int .i64 0], none, []⟩,
 ⟨7, none, .store 2 (.t 10) (.t 56), none, []⟩,
 ⟨8, some 11, .mv (.t 57), none, []⟩] false [2, 3, 5, 6, 7, 8, 9, 10, 11])
 (.seq (.seq (.region 0 [
 ⟨0, some 58, .mv (.t 9), none, []⟩,
 ⟨1, some 59, .bin .neq (.t 58) (.k (.sc (.int .i64 0))), none, []⟩] false [2, 3, 5, 6, 7, 8, 9, 10, 11, 59])
 (.cond (.t 59)
 (.seq (.region 0 [
 ⟨0, some 60, .mv (.t 9), none, []⟩,
 ⟨1, some 61, .bin .eql (.t 60) (.k (.sc (.int .i64 42))), none, []⟩,
 ⟨2, some 62, .mv (.t 61), none, []⟩,
 ⟨3, some 63, .mv (.t 11), some (62, true), []⟩,
 ⟨4, some 64, .mv (.t 9), some (62, true), []⟩,
 ⟨5, some 65, .bin .eql (.t 63) (.t 64), some (62, true), []⟩,
 ⟨6, some 66, .pick (.t 62) (.t 65) (.k (.sc (.bool false))), none, []⟩,
 ⟨7, some 67, .mv (.t 66), none, []⟩,
 ⟨8, some 68, .load (some 2) (.t 8), some (67, true), []⟩,
 ⟨9, some 69, .call true (.f 30) [.k (.sc (.int .i64 0))], some (67, true), []⟩,
 ⟨10, some 70, .eqf false ⟨true, [1, 1]⟩ (.t 68) (.t 69), some (67, true), []⟩,
 ⟨11, some 71, .pick (.t 67) (.t 70) (.k (.sc (.bool false))), none, []⟩,
 ⟨12, some 72, .mv (.t 71), none, []⟩,
 ⟨13, some 73, .load (some 2) (.t 10), some (72, true), []⟩,
 ⟨14, some 74, .load (some 2) (.t 8), some (72, true), []⟩,
 ⟨15, some 75, .eqf false ⟨true, [1, 1]⟩ (.t 73) (.t 74), some (72, true), []⟩,
 ⟨16, some 76, .pick (.t 72) (.t 75) (.k (.sc (.bool false))), none, []⟩,
 ⟨17, some 77, .mv (.t 76), none, []⟩,
 ⟨18, some 78, .call true (.f 110) [], some (77, true), []⟩,
 ⟨19, some 79, .pick (.t 77) (.t 78) (.k (.sc (.bool false))), none, []⟩,
 ⟨20, some 4, .mv (.t 79), none, []⟩] true [4])
 (.ret))
 (.skip)))
 (.seq (.seq (.region 0 [
 ⟨0, some 80, .mv (.t 11), none, []⟩,
 ⟨1, some 81, .bin .neq (.t 80) (.k (.sc (.int .i64 0))), none, []⟩,
 ⟨2, some 82, .mv (.t 81), none, []⟩,
 ⟨3, some 83, .faddr 0 (.t 8), some (82, false), []⟩,
 ⟨4, some 84, .load none (.t 83), some (82, false), []⟩,
 ⟨5, some 85, .faddr 1 (.t 8), some (82, false), []⟩,
 ⟨6, some 86, .load none (.t 85), some (82, false), []⟩,
 ⟨7, some 87, .bin .gtr (.t 84) (.t 86), some (82, false), []⟩,
 ⟨8, some 88, .pick (.t 82) (.k (.sc (.bool true))) (.t 87), none, []⟩,
 ⟨9, some 89, .mv (.t 88), none, []⟩,
 ⟨10, some 90, .faddr 0 (.t 10), some (89, false), []⟩,
 ⟨11, some 91, .load none (.t 90), some (89, false), []⟩,
 ⟨12, some 92, .faddr 1 (.t 10), some (89, false), []⟩,
 ⟨13, some 93, .load none (.t 92), some (89, false), []⟩,
 ⟨14, some 94, .bin .gtr (.t 91) (.t 93), some (89, false), []⟩,
 ⟨15, some 95, .pick (.t 89) (.k (.sc (.bool true))) (.t 94), none, []⟩,
 ⟨16, some 96, .mv (.t 95), none, []⟩,
 ⟨17, some 97, .load (some 2) (.t 10), some (96, false), []⟩,
 ⟨18, some 98, .mv (.t 7), some (96, false), []⟩,
 ⟨19, some 99, .faddr 1 (.t 2), some (96, false), []⟩,
 ⟨20, some 100, .iarr 3 2 (.t 99) (.t 98), some (96, false), []⟩,
 ⟨21, some 101, .load (some 2) (.t 100), some (96, false), []⟩,
 ⟨22, some 102, .call true (.f 31) [.t 97, .t 101], some (96, false), []⟩,
 ⟨23, some 103, .un .not (.t 102), some (96, false), []⟩,
 ⟨24, some 104, .pick (.t 96) (.k (.sc (.bool true))) (.t 103), none, []⟩] true [2, 3, 5, 6, 7, 8, 10, 104])
 (.cond (.t 104)
 (.seq (.region 0 [
 ⟨0, some 4, .mv (.k (.sc (.bool false))), none, []⟩] false [4])
 (.ret))
 (.skip)))
 (.seq (.region 0 [
 ⟨0, some 105, .faddr 0 (.t 8), none, []⟩,
 ⟨1, some 106, .load none (.t 105), none, []⟩,
 ⟨2, some 107, .faddr 1 (.t 8), none, []⟩,
 ⟨3, some 108, .load none (.t 107), none, []⟩,
 ⟨4, some 109, .faddr 0 (.t 8), none, []⟩,
 ⟨5, some 110, .load none (.t 109), none, []⟩,
 ⟨6, some 111, .bin .sub (.t 110) (.k (.sc (.int .i64 1))), none, []⟩,
 ⟨7, some 112, .faddr 1 (.t 8), none, []⟩,
 ⟨8, some 113, .load none (.t 112), none, []⟩,
 ⟨9, some 114, .bin .add (.t 113) (.k (.sc (.int .i64 1))), none, []⟩,
 ⟨10, some 115, .iarr 4 1 (.t 3) (.k (.sc (.int .i64 3))), none, []⟩,
 ⟨11, some 116, .load none (.t 115), none, []⟩,
 ⟨12, some 117, .call true (.f 27) [.t 116, .k (.sc (.int .i64 40))], none, []⟩,
 ⟨13, some 118, .bin .sub (.t 117) (.k (.sc (.int .i64 10))), none, []⟩,
 ⟨14, some 119, .bslice 1 5 [.int .i64 0] [(0, .t 106), (1, .t 108), (2, .t 111), (3, .t 114), (4, .t 118)], none, []⟩,
 ⟨15, some 12, .mv (.t 119), none, []⟩] true [2, 5, 6, 7, 8, 10, 12])
 (.seq (.seq (.region 0 [
 ⟨0, some 13, .mv (.k (.sc (.int .i64 0))), none, []⟩] false [2, 5, 6, 7, 8, 10, 12, 13])
 (.block 0 (d4e)))
 (.seq (.seq (.region 0 [
 ⟨0, some 16, .mv (.k (.sc (.int .i64 0))), none, []⟩] false [2, 7, 10, 16])
 (.block 2 (d4c)))
 (.seq (.region 0 [
 ⟨0, some 194, .call true (.f 110) [], none, []⟩,
 ⟨1, some 4, .mv (.t 194), none, []⟩] false [4])
 (.ret)))))))))))), false⟩
def a2t : Fn := ⟨2, 37, [(4, none), (5, none)],
 (.seq (.region 2 [
 ⟨0, some 2, .box 0 (.t 0), none, []⟩,
 ⟨1, some 3, .box 1 (.t 1), none, []⟩,
 ⟨2, some 4, .mv (.k (.sc (.bool false))), none, []⟩,
 ⟨3, some 5, .mv (.k (.sc (.int .i64 0))), none, []⟩] false [2, 3])
 (.seq (.seq (.region 1 [
 ⟨0, some 9, .load (some 10) (.t 2), none, []⟩,
 ⟨1, some 10, .load (some 10) (.t 2), none, []⟩,
 ⟨2, some 11, .load (some 4) (.t 3), none, []⟩,
 ⟨3, some 12, .call true (.f 154) [.t 10, .t 11], none, []⟩,
 ⟨4, some 13, .call true (.f 111) [.t 9, .t 12], none, []⟩,
 ⟨5, some 8, .mv (.t 13), none, []⟩,
 ⟨6, some 14, .ext (.t 8) 0, none, []⟩,
 ⟨7, some 15, .ext (.t 8) 1, none, []⟩,
 ⟨8, some 6, .alloc 0 [.sl .nil 2 [], .int .i64 0, .int .i64 0, .int .i64 0, .int .i64 0, .int .i64 0, .int .i64 0, .sl .nil 3 [], .sl .nil 2 [], .sl .nil 4 [], .imap true false [], .sl .nil 4 []], none, [0, 1, 2]⟩,
 ⟨9, none, .store 12 (.t 6) (.t 14), none, []⟩,
 ⟨10, some 7, .mv (.t 15), none, []⟩] true [2, 3, 7])
 (.seq (.region 0 [
 ⟨0, some 16, .mv (.t 7), none, []⟩,
 ⟨1, some 17, .bin .neq (.t 16) (.k (.sc (.int .i64 0))), none, []⟩] false [2, 3, 7, 17])
 (.cond (.t 17)
 (.seq (.region 0 [
 ⟨0, some 18, .mv (.t 7), none, []⟩,
 ⟨1, some 4, .mv (.k (.sc (.bool false))), none, []⟩,
 ⟨2, some 5, .mv (.t 18), none, []⟩] false [4, 5])
 (.ret))
 (.skip))))
 (.seq (.region 0 [
 ⟨0, some 19, .faddr 9 (.t 2), none, []⟩,
 ⟨1, some 20, .load none (.t 19), none, []⟩,
 ⟨2, some 21, .faddr 9 (.t 2), none, []⟩,
 ⟨3, some 22, .load none (.t 21), none, []⟩,
 ⟨4, some 23, .len 1 (.t 22), none, []⟩,
 ⟨5, some 24, .faddr 9 (.t 2), none, []⟩,
 ⟨6, some 25, .load none (.t 24), none, []⟩,
 ⟨7, some 26, .len 1 (.t 25), none, []⟩,
 ⟨8, some 27, .slice 4 (.t 20) none (some (.t 23)) (some (.t 26)), none, []⟩,
 ⟨9, some 28, .load (some 4) (.t 3), none, []⟩,
 ⟨10, some 29, .bslice 4 1 [.int .i64 0, .int .i64 0, .int .i64 0, .int .i64 0] [(0, .t 28)], none, []⟩,
 ⟨11, some 30, .append 4 (.tk 27) (.t 29), none, []⟩,
 ⟨12, some 31, .faddr 9 (.t 2), none, []⟩,
 ⟨13, none, .store 1 (.t 31) (.tk 30), none, []⟩] true [2])
 (.seq (.region 0 [
 ⟨0, some 32, .load (some 10) (.t 2), none, []⟩,
 ⟨1, some 33, .call true (.f 144) [.t 32, .k (.sc (.sl .nil 1 []))], none, []⟩,
 ⟨2, some 34, .field 11 none (.t 33), none, []⟩,
 ⟨3, some 35, .len 1 (.t 34), none, []⟩,
 ⟨4, some 36, .bin .gtr (.t 35) (.k (.sc (.int .i64 0))), none, []⟩,
 ⟨5, some 4, .mv (.t 36), none, []⟩,
 ⟨6, some 5, .mv (.k (.sc (.int .i64 0))), none, []⟩] false [4, 5])
 (.ret))))), false⟩
def a1U : AC :=
 (.seq (.region 0 [
 ⟨0, some 20, .bin .lss (.t 19) (.t 18), none, []⟩] false [5, 18, 19, 20])
 (.seq (.cond (.t 20)
 (.skip)
 (.exit 0))
 (.seq (.block 1 (.seq (.region 0 [
 ⟨0, some 21, .mv (.t 19), none, []⟩,
 ⟨1, some 6, .mv (.t 21), none, []⟩] false [5, 6, 18, 19])
 (.seq (.region 0 [
 ⟨0, some 23, .load none (.t 5), none, []⟩,
 ⟨1, some 24, .mv (.t 6), none, []⟩,
 ⟨2, some 25, .call false (.t 23) [.k (.sc (.sl .nil 1 [])), .t 24], none, []⟩,
 ⟨3, some 22, .mv (.t 25), none, []⟩,
 ⟨4, some 26, .ext (.t 22) 0, none, []⟩,
 ⟨5, some 27, .ext (.t 22) 1, none, []⟩,
 ⟨6, some 7, .mv (.t 26), none, []⟩,
 ⟨7, some 8, .mv (.t 27), none, []⟩] false [5, 7, 8, 18, 19])
 (.seq (.region 0 [
 ⟨0, some 28, .mv (.t 8), none, []⟩] false [5, 7, 18, 19, 28])
 (.cond (.t 28)
 (.seq (.region 0 [
 ⟨0, some 29, .mv (.t 7), none, []⟩,
 ⟨1, some 30, .mv (.t 7), none, []⟩,
 ⟨2, some 31, .len 1 (.t 30), none, []⟩,
 ⟨3, some 32, .mv (.t 7), none, []⟩,
 ⟨4, some 33, .len 1 (.t 32), none, []⟩,
 ⟨5, some 34, .slice 1 (.t 29) none (some (.t 31)) (some (.t 33)), none, []⟩,
 ⟨6, some 2, .mv (.t 34), none, []⟩,
 ⟨7, some 3, .mv (.k (.sc (.int .i64 0))), none, []⟩] false [2, 3])
 (.ret))
 (.skip))))))
 (.region 0 [
 ⟨0, some 35, .bin .add (.t 19) (.k (.sc (.int .i64 1))), none, []⟩,
 ⟨1, some 19, .mv (.t 35), none, []⟩] false [5, 18, 19]))))
def a8t : AC := .loop [5, 18, 19] a1U
def a4l : Fn := ⟨1, 36, [(2, none), (3, none)],
 (.seq (.region 1 [
 ⟨0, some 1, .box 0 (.t 0), none, []⟩,
 ⟨1, some 2, .mv (.k (.sc (.sl .nil 1 []))), none, []⟩,
 ⟨2, some 3, .mv (.k (.sc (.int .i64 0))), none, []⟩] false [1])
 (.frz 1 (.seq (.seq (.region 0 [
 ⟨0, some 9, .load (some 10) (.t 1), none, []⟩,
 ⟨1, some 10, .call true (.f 117) [.t 9], none, []⟩,
 ⟨2, some 4, .mv (.t 10), none, []⟩] false [1, 4])
 (.seq (.region 0 [
 ⟨0, some 11, .mv (.t 4), none, []⟩,
 ⟨1, some 12, .bin .neq (.t 11) (.k (.sc (.int .i64 0))), none, []⟩] false [1, 4, 12])
 (.cond (.t 12)
 (.seq (.region 0 [
 ⟨0, some 13, .mv (.t 4), none, []⟩,
 ⟨1, some 2, .mv (.k (.sc (.sl .nil 1 []))), none, []⟩,
 ⟨2, some 3, .mv (.t 13), none, []⟩] false [2, 3])
 (.ret))
 (.skip))))
 (.seq (.region 1 [
 ⟨0, some 5, .alloc 0 [.nilf], none, []⟩] false [1, 5])
 (.seq (.region 0 [
 ⟨0, some 14, .mkf 170 [] [] [.t 1, .t 5], none, []⟩,
 ⟨1, none, .store 1 (.t 5) (.t 14), none, []⟩] false [1, 5])
 (.seq (.seq (.region 0 [
 ⟨0, some 15, .faddr 9 (.t 1), none, []⟩,
 ⟨1, some 16, .load none (.t 15), none, []⟩,
 ⟨2, some 17, .len 1 (.t 16), none, []⟩,
 ⟨3, some 18, .bin .add (.t 17) (.k (.sc (.int .i64 1))), none, []⟩,
 ⟨4, some 19, .mv (.k (.sc (.int .i64 0))), none, []⟩] false [5, 18, 19])
 (.block 0 (a8t)))
 (.seq (.region 0 [
 ⟨0, some 2, .mv (.k (.sc (.sl .nil 1 []))), none, []⟩,
 ⟨1, some 3, .mv (.k (.sc (.int .i64 0))), none, []⟩] false [2, 3])
 (.ret)))))))), false⟩
def a1b : AC :=
 (.seq (.seq (.region 0 [
 ⟨0, some 12, .mv (.t 5), none, []⟩,
 ⟨1, some 13, .mv (.t 12), none, []⟩,
 ⟨2, some 14, .mv (.t 6), some (13, true), []⟩,
 ⟨3, some 15, .mv (.t 0), some (13, true), []⟩,
 ⟨4, some 16, .len 1 (.t 15), some (13, true), []⟩,
 ⟨5, some 17, .bin .lss (.t 14) (.t 16), some (13, true), []⟩,
 ⟨6, some 18, .pick (.t 13) (.t 17) (.k (.sc (.bool false))), none, []⟩] false [0, 1, 5, 6, 18])
 (.cond (.t 18)
 (.skip)
 (.exit 0)))
 (.seq (.block 1 (.region 0 [
 ⟨0, some 21, .mv (.t 0), none, []⟩,
 ⟨1, some 22, .mv (.t 6), none, []⟩,
 ⟨2, some 23, .iaddr 1 (.t 21) (.t 22), none, []⟩,
 ⟨3, some 24, .load none (.t 23), none, []⟩,
 ⟨4, some 25, .mv (.t 1), none, []⟩,
 ⟨5, some 26, .mv (.t 6), none, []⟩,
 ⟨6, some 27, .iaddr 1 (.t 25) (.t 26), none, []⟩,
 ⟨7, some 28, .load none (.t 27), none, []⟩,
 ⟨8, some 29, .bin .eql (.t 24) (.t 28), none, []⟩,
 ⟨9, some 5, .mv (.t 29), none, []⟩] true [0, 1, 5, 6]))
 (.region 0 [
 ⟨0, some 19, .mv (.t 6), none, []⟩,
 ⟨1, some 20, .bin .add (.t 19) (.k (.sc (.int .i64 1))), none, []⟩,
 ⟨2, some 6, .mv (.t 20), none, []⟩] false [0, 1, 5, 6])))
def a6n : AC := .loop [0, 1, 5, 6] a1b
def a3l : Fn := ⟨2, 31, [(4, none)],
 (.seq (.region 0 [
 ⟨0, some 4, .mv (.k (.sc (.bool false))), none, []⟩] false [0, 1])
 (.seq (.region 0 [
 ⟨0, some 7, .mv (.t 0), none, []⟩,
 ⟨1, some 8, .len 1 (.t 7), none, []⟩,
 ⟨2, some 9, .mv (.t 1), none, []⟩,
 ⟨3, some 10, .len 1 (.t 9), none, []⟩,
 ⟨4, some 11, .bin .eql (.t 8) (.t 10), none, []⟩,
 ⟨5, some 5, .mv (.t 11), none, []⟩] false [0, 1, 5])
 (.seq (.seq (.region 0 [
 ⟨0, some 6, .mv (.k (.sc (.int .i64 0))), none, []⟩] false [0, 1, 5, 6])
 (.block 0 (a6n)))
 (.seq (.region 0 [
 ⟨0, some 30, .mv (.t 5), none, []⟩,
 ⟨1, some 4, .mv (.t 30), none, []⟩] false [4])
 (.ret))))), false⟩
def a3M : Fn := ⟨0, 173, [(0, none)],
 (.seq (.region 0 [
 ⟨0, some 0, .mv (.k (.sc (.bool false))), none, []⟩] false [])
 (.seq (.region 1 [
 ⟨0, some 20, .call true (.f 134) [], none, []⟩,
 ⟨1, some 21, .call true (.f 135) [.t 20, .k (.sc (.int .i64 0)), .k (.sc (.int .i64 3))], none, []⟩,
 ⟨2, some 19, .mv (.t 21), none, []⟩,
 ⟨3, some 22, .ext (.t 19) 0, none, []⟩,
 ⟨4, some 23, .ext (.t 19) 1, none, []⟩,
 ⟨5, some 1, .alloc 0 [.int .i64 0, .int .i64 0], none, []⟩,
 ⟨6, none, .store 2 (.t 1) (.t 22), none, []⟩,
 ⟨7, some 2, .mv (.t 23), none, []⟩] false [1, 2])
 (.seq (.region 1 [
 ⟨0, some 25, .call true (.f 136) [], none, []⟩,
 ⟨1, some 26, .call true (.f 135) [.t 25, .k (.sc (.int .i64 1)), .k (.sc (.int .i64 0))], none, []⟩,
 ⟨2, some 24, .mv (.t 26), none, []⟩,
 ⟨3, some 27, .ext (.t 24) 0, none, []⟩,
 ⟨4, some 28, .ext (.t 24) 1, none, []⟩,
 ⟨5, some 3, .alloc 0 [.int .i64 0, .int .i64 0], none, []⟩,
 ⟨6, none, .store 2 (.t 3) (.t 27), none, []⟩,
 ⟨7, some 4, .mv (.t 28), none, []⟩] false [1, 2, 3, 4])
 (.seq (.region 1 [
 ⟨0, some 30, .call true (.f 136) [], none, []⟩,
 ⟨1, some 31, .call true (.f 137) [.t 30, .k (.sc (.int .i64 0))], none, []⟩,
 ⟨2, some 29, .mv (.t 31), none, []⟩,
 ⟨3, some 32, .ext (.t 29) 0, none, []⟩,
 ⟨4, some 33, .ext (.t 29) 1, none, []⟩,
 ⟨5, some 5, .alloc 0 [.int .i64 0, .int .i64 0], none, []⟩,
 ⟨6, none, .store 2 (.t 5) (.t 32), none, []⟩,
 ⟨7, some 6, .mv (.t 33), none, []⟩] false [1, 2, 3, 4, 5, 6])
 (.seq (.region 0 [
 ⟨0, some 35, .call true (.f 134) [], none, []⟩,
 ⟨1, some 36, .call true (.f 138) [.t 35, .k (.sc (.int .i64 1))], none, []⟩,
 ⟨2, some 34, .mv (.t 36), none, []⟩,
 ⟨3, some 37, .ext (.t 34) 0, none, []⟩,
 ⟨4, some 38, .ext (.t 34) 1, none, []⟩,
 ⟨5, some 7, .mv (.t 37), none, []⟩,
 ⟨6, some 8, .mv (.t 38), none, []⟩] false [1, 2, 3, 4, 5, 6, 7, 8])
 (.seq (.region 0 [
 ⟨0, some 40, .call true (.f 134) [], none, []⟩,
 ⟨1, some 41, .call true (.f 101) [.t 40], none, []⟩,
 ⟨2, some 39, .mv (.t 41), none, []⟩,
 ⟨3, some 42, .ext (.t 39) 0, none, []⟩,
 ⟨4, some 43, .ext (.t 39) 1, none, []⟩,
 ⟨5, some 44, .ext (.t 39) 2, none, []⟩,
 ⟨6, some 9, .mv (.t 42), none, []⟩,
 ⟨7, some 10, .mv (.t 43), none, []⟩,
 ⟨8, some 11, .mv (.t 44), none, []⟩] false [1, 2, 3, 4, 5, 6, 7, 8, 9, 10, 11])
 (.seq (.seq (.region 0 [
 ⟨0, some 45, .mv (.t 2), none, []⟩,
 ⟨1, some 46, .bin .neq (.t 45) (.k (.sc (.int .i64 0))), none, []⟩,
 ⟨2, some 47, .mv (.t 46), none, []⟩,
 ⟨3, some 48, .mv (.t 4), some (47, false), []⟩,
 ⟨4, some 49, .bin .neq (.t 48) (.k (.sc (.int .i64 0))), some (47, false), []⟩,
 ⟨5, some 50, .pick (.t 47) (.k (.sc (.bool true))) (.t 49), none, []⟩,
 ⟨6, some 51, .mv (.t 50), none, []⟩,
 ⟨7, some 52, .mv (.t 6), some (51, false), []⟩,
 ⟨8, some 53, .bin .neq (.t 52) (.k (.sc (.int .i64 0))), some (51, false), []⟩,
 ⟨9, some 54, .pick (.t 51) (.k (.sc (.bool true))) (.t 53), none, []⟩,
 ⟨10, some 55, .mv (.t 54), none, []⟩,
 ⟨11, some 56, .mv (.t 8), some (55, false), []⟩,
 ⟨12, some 57, .bin .neq (.t 56) (.k (.sc (.int .i64 0))), some (55, false), []⟩,
 ⟨13, some 58, .pick (.t 55) (.k (.sc (.bool true))) (.t 57), none, []⟩,
 ⟨14, some 59, .mv (.t 58), none, []⟩,
 ⟨15, some 60, .mv (.t 11), some (59, false), []⟩,
 ⟨16, some 61, .bin .neq (.t 60) (.k (.sc (.int .i64 0))), some (59, false), []⟩,
 ⟨17, some 62, .pick (.t 59) (.k (.sc (.bool true))) (.t 61), none, []⟩,
 ⟨18, some 63, .mv (.t 62), none, []⟩,
 ⟨19, some 64, .load (some 2) (.t 1), some (63, false), []⟩,
 ⟨20, some 65, .call true (.f 33) [.k (.sc (.int .i64 (-2))), .k (.sc (.int .i64 5))], some (63, false), []⟩,
 ⟨21, some 66, .eqf true ⟨true, [1, 1]⟩ (.t 64) (.t 65), some (63, false), []⟩,
 ⟨22, some 67, .pick (.t 63) (.k (.sc (.bool true))) (.t 66), none, []⟩,
 ⟨23, some 68, .mv (.t 67), none, []⟩,
 ⟨24, some 69, .load (some 2) (.t 3), some (68, false), []⟩,
 ⟨25, some 70, .call true (.f 30) [.k (.sc (.int .i64 1))], some (68, false), []⟩,
 ⟨26, some 71, .eqf true ⟨true, [1, 1]⟩ (.t 69) (.t 70), some (68, false), []⟩,
 ⟨27, some 72, .pick (.t 68) (.k (.sc (.bool true))) (.t 71), none, []⟩,
 ⟨28, some 73, .mv (.t 72), none, []⟩,
 ⟨29, some 74, .load (some 2) (.t 5), some (73, false), []⟩,
 ⟨30, some 75, .call true (.f 30) [.k (.sc (.int .i64 3))], some (73, false), []⟩,
 ⟨31, some 76, .eqf true ⟨true, [1, 1]⟩ (.t 74) (.t 75), some (73, false), []⟩,
 ⟨32, some 77, .pick (.t 73) (.k (.sc (.bool true))) (.t 76), none, []⟩,
 ⟨33, some 78, .mv (.t 77), none, []⟩,
 ⟨34, some 79, .mv (.t 7), some (78, false), []⟩,
 ⟨35, some 80, .bin .neq (.t 79) (.k (.sc (.int .i64 2))), some (78, false), []⟩,
 ⟨36, some 81, .pick (.t 78) (.k (.sc (.bool true))) (.t 80), none, []⟩,
 ⟨37, some 82, .mv (.t 81), none, []⟩,
 ⟨38, some 83, .mv (.t 9), some (82, false), []⟩,
 ⟨39, some 84, .bin .neq (.t 83) (.k (.sc (.int .i64 2))), some (82, false), []⟩,
 ⟨40, some 85, .pick (.t 82) (.k (.sc (.bool true))) (.t 84), none, []⟩,
 ⟨41, some 86, .mv (.t 85), none, []⟩,
 ⟨42, some 87, .mv (.t 10), some (86, false), []⟩,
 ⟨43, some 88, .bin .neq (.t 87) (.k (.sc (.int .i64 0))), some (86, false), []⟩,
 ⟨44, some 89, .pick (.t 86) (.k (.sc (.bool true))) (.t 88), none, []⟩] true [89])
 (.cond (.t 89)
 (.seq (.region 0 [
 ⟨0, some 0, .mv (.k (.sc (.bool false))), none, []⟩] false [0])
 (.ret))
 (.skip)))
 (.seq (.region 0 [
 ⟨0, some 91, .call true (.f 134) [], none, []⟩,
 ⟨1, some 92, .bslice 1 4 [.int .i64 0] [(0, .k (.sc (.int .i64 0))), (1, .k (.sc (.int .i64 0))), (2, .k (.sc (.int .i64 1))), (3, .k (.sc (.int .i64 1)))], none, []⟩,
 ⟨2, some 93, .call true (.f 139) [.t 92], none, []⟩,
 ⟨3, some 94, .call true (.f 105) [.t 91, .t 93], none, []⟩,
 ⟨4, some 90, .mv (.t 94), none, []⟩,
 ⟨5, some 95, .ext (.t 90) 0, none, []⟩,
 ⟨6, some 96, .ext (.t 90) 1, none, []⟩,
 ⟨7, some 12, .mv (.t 95), none, []⟩,
 ⟨8, some 2, .mv (.t 96), none, []⟩] false [2, 12])
 (.seq (.region 0 [
 ⟨0, some 98, .call true (.f 134) [], none, []⟩,
 ⟨1, some 99, .call true (.f 107) [.t 98], none, []⟩,
 ⟨2, some 97, .mv (.t 99), none, []⟩,
 ⟨3, some 100, .ext (.t 97) 0, none, []⟩,
 ⟨4, some 101, .ext (.t 97) 1, none, []⟩,
 ⟨5, some 13, .mv (.t 100), none, []⟩,
 ⟨6, some 4, .mv (.t 101), none, []⟩] false [2, 4, 12, 13])
 (.seq (.region 0 [
 ⟨0, some 103, .call true (.f 140) [], none, []⟩,
 ⟨1, some 104, .call true (.f 107) [.t 103], none, []⟩,
 ⟨2, some 102, .mv (.t 104), none, []⟩,
 ⟨3, some 105, .ext (.t 102) 0, none, []⟩,
 ⟨4, some 106, .ext (.t 102) 1, none, []⟩,
 ⟨5, some 14, .mv (.t 105), none, []⟩,
 ⟨6, some 6, .mv (.t 106), none, []⟩] false [2, 4, 6, 12, 13, 14])
 (.seq (.region 0 [
 ⟨0, some 108, .call true (.f 134) [], none, []⟩,
 ⟨1, some 109, .build [.int .i64 0, .int .i64 0, .int .i64 0, .int .i64 0] [(0, 1, .k (.sc (.int .i64 1))), (2, 1, .k (.sc (.int .i64 3))), (3, 1, .k (.sc (.int .i64 1)))], none, []⟩,
 ⟨2, some 110, .call true (.f 141) [.t 108, .t 109], none, []⟩,
 ⟨3, some 107, .mv (.t 110), none, []⟩,
 ⟨4, some 111, .ext (.t 107) 0, none, []⟩,
 ⟨5, some 112, .ext (.t 107) 1, none, []⟩,
 ⟨6, some 15, .mv (.t 111), none, []⟩,
 ⟨7, some 8, .mv (.t 112), none, []⟩] false [2, 4, 6, 8, 12, 13, 14, 15])
 (.seq (.region 0 [
 ⟨0, some 114, .call true (.f 142) [], none, []⟩,
 ⟨1, some 115, .call true (.f 143) [.t 114], none, []⟩,
 ⟨2, some 113, .mv (.t 115), none, []⟩,
 ⟨3, some 116, .ext (.t 113) 0, none, []⟩,
 ⟨4, some 117, .ext (.t 113) 1, none, []⟩,
 ⟨5, some 16, .mv (.t 116), none, []⟩,
 ⟨6, some 11, .mv (.t 117), none, []⟩] false [2, 4, 6, 8, 11, 12, 13, 14, 15, 16])
 (.seq (.region 0 [
 ⟨0, some 119, .call true (.f 134) [], none, []⟩,
 ⟨1, some 120, .bslice 1 4 [.int .i64 0] [(0, .k (.sc (.int .i64 0))), (1, .k (.sc (.int .i64 0))), (2, .k (.sc (.int .i64 1))), (3, .k (.sc (.int .i64 1)))], none, []⟩,
 ⟨2, some 121, .call true (.f 139) [.t 120], none, []⟩,
 ⟨3, some 122, .call true (.f 103) [.t 119, .t 121], none, []⟩,
 ⟨4, some 118, .mv (.t 122), none, []⟩,
 ⟨5, some 123, .ext (.t 118) 0, none, []⟩,
 ⟨6, some 124, .ext (.t 118) 1, none, []⟩,
 ⟨7, some 17, .mv (.t 123), none, []⟩,
 ⟨8, some 18, .mv (.t 124), none, []⟩] false [2, 4, 6, 8, 11, 12, 13, 14, 15, 16, 17, 18])
 (.seq (.region 0 [
 ⟨0, some 125, .mv (.t 2), none, []⟩,
 ⟨1, some 126, .bin .eql (.t 125) (.k (.sc (.int .i64 0))), none, []⟩,
 ⟨2, some 127, .mv (.t 126), none, []⟩,
 ⟨3, some 128, .mv (.t 4), some (127, true), []⟩,
 ⟨4, some 129, .bin .eql (.t 128) (.k (.sc (.int .i64 0))), some (127, true), []⟩,
 ⟨5, some 130, .pick (.t 127) (.t 129) (.k (.sc (.bool false))), none, []⟩,
 ⟨6, some 131, .mv (.t 130), none, []⟩,
 ⟨7, some 132, .mv (.t 6), some (131, true), []⟩,
 ⟨8, some 133, .bin .eql (.t 132) (.k (.sc (.int .i64 0))), some (131, true), []⟩,
 ⟨9, some 134, .pick (.t 131) (.t 133) (.k (.sc (.bool false))), none, []⟩,
 ⟨10, some 135, .mv (.t 134), none, []⟩,
 ⟨11, some 136, .mv (.t 8), some (135, true), []⟩,
 ⟨12, some 137, .bin .eql (.t 136) (.k (.sc (.int .i64 0))), some (135, true), []⟩,
 ⟨13, some 138, .pick (.t 135) (.t 137) (.k (.sc (.bool false))), none, []⟩,
 ⟨14, some 139, .mv (.t 138), none, []⟩,
 ⟨15, some 140, .mv (.t 11), some (139, true), []⟩,
 ⟨16, some 141, .bin .eql (.t 140) (.k (.sc (.int .i64 0))), some (139, true), []⟩,
 ⟨17, some 142, .pick (.t 139) (.t 141) (.k (.sc (.bool false))), none, []⟩,
 ⟨18, some 143, .mv (.t 142), none, []⟩,
 ⟨19, some 144, .mv (.t 18), some (143, true), []⟩,
 ⟨20, some 145, .bin .eql (.t 144) (.k (.sc (.int .i64 0))), some (143, true), []⟩,
 ⟨21, some 146, .pick (.t 143) (.t 145) (.k (.sc (.bool false))), none, []⟩,
 ⟨22, some 147, .mv (.t 146), none, []⟩,
 ⟨23, some 148, .mv (.t 12), some (147, true), []⟩,
 ⟨24, some 149, .pick (.t 147) (.t 148) (.k (.sc (.bool false))), none, []⟩,
 ⟨25, some 150, .mv (.t 149), none, []⟩,
 ⟨26, some 151, .mv (.t 13), some (150, true), []⟩,
 ⟨27, some 152, .bslice 1 4 [.int .i64 0] [(0, .k (.sc (.int .i64 0))), (1, .k (.sc (.int .i64 0))), (2, .k (.sc (.int .i64 1))), (3, .k (.sc (.int .i64 1)))], some (150, true), []⟩,
 ⟨28, some 153, .call true (.f 139) [.t 152], some (150, true), []⟩,
 ⟨29, some 154, .call true (.f 109) [.t 151, .t 153], some (150, true), []⟩,
 ⟨30, some 155, .pick (.t 150) (.t 154) (.k (.sc (.bool false))), none, []⟩,
 ⟨31, some 156, .mv (.t 155), none, []⟩,
 ⟨32, some 157, .mv (.t 14), some (156, true), []⟩,
 ⟨33, some 158, .bslice 1 4 [.int .i64 0] [(0, .k (.sc (.int .i64 0))), (1, .k (.sc (.int .i64 0))), (2, .k (.sc (.int .i64 2))), (3, .k (.sc (.int .i64 1)))], some (156, true), []⟩,
 ⟨34, some 159, .call true (.f 139) [.t 158], some (156, true), []⟩,
 ⟨35, some 160, .call true (.f 109) [.t 157, .t 159], some (156, true), []⟩,
 ⟨36, some 161, .pick (.t 156) (.t 160) (.k (.sc (.bool false))), none, []⟩,
 ⟨37, some 162, .mv (.t 161), none, []⟩,
 ⟨38, some 163, .mv (.t 15), some (162, true), []⟩,
 ⟨39, some 164, .pick (.t 162) (.t 163) (.k (.sc (.bool false))), none, []⟩,
 ⟨40, some 165, .mv (.t 164), none, []⟩,
 ⟨41, some 166, .mv (.t 16), some (165, true), []⟩,
 ⟨42, some 167, .bslice 1 1 [.int .i64 0] [(0, .k (.sc (.int .i64 0)))], some (165, true), []⟩,
 ⟨43, some 168, .call true (.f 23) [.t 166, .t 167], some (165, true), []⟩,
 ⟨44, some 169, .pick (.t 165) (.t 168) (.k (.sc (.bool false))), none, []⟩,
 ⟨45, some 170, .mv (.t 169), none, []⟩,
 ⟨46, some 171, .mv (.t 17), some (170, true), []⟩,
 ⟨47, some 172, .pick (.t 170) (.t 171) (.k (.sc (.bool false))), none, []⟩,
 ⟨48, some 0, .mv (.t 172), none, []⟩] false [0])
 (.ret))))))))))))))), false⟩
def a1o : AC :=
 (.seq (.seq (.region 0 [
 ⟨0, some 37, .mv (.t 3), none, []⟩,
 ⟨1, some 38, .mv (.t 37), none, []⟩,
 ⟨2, some 39, .mv (.t 4), some (38, true), []⟩,
 ⟨3, some 40, .faddr 0 (.t 1), some (38, true), []⟩,
 ⟨4, some 41, .load none (.t 40), some (38, true), []⟩,
 ⟨5, some 42, .len 1 (.t 41), some (38, true), []⟩,
 ⟨6, some 43, .bin .lss (.t 39) (.t 42), some (38, true), []⟩,
 ⟨7, some 44, .pick (.t 38) (.t 43) (.k (.sc (.bool false))), none, []⟩] false [1, 3, 4, 44])
 (.cond (.t 44)
 (.skip)
 (.exit 0)))
 (.seq (.block 1 (.region 0 [
 ⟨0, some 47, .faddr 0 (.t 1), none, []⟩,
 ⟨1, some 48, .load none (.t 47), none, []⟩,
 ⟨2, some 49, .mv (.t 4), none, []⟩,
 ⟨3, some 50, .iaddr 2 (.t 48) (.t 49), none, []⟩,
 ⟨4, some 51, .load (some 2) (.t 50), none, []⟩,
 ⟨5, some 52, .call true (.f 49) [.t 51, .k (.sc (.int .i64 0)), .k (.sc (.int .i64 30)), .k (.sc (.int .i64 2))], none, []⟩,
 ⟨6, some 3, .mv (.t 52), none, []⟩] false [1, 3, 4]))
 (.region 0 [
 ⟨0, some 45, .mv (.t 4), none, []⟩,
 ⟨1, some 46, .bin .add (.t 45) (.k (.sc (.int .i64 1))), none, []⟩,
 ⟨2, some 4, .mv (.t 46), none, []⟩] false [1, 3, 4])))
def a4v : AC := .loop [1, 3, 4] a1o
def a4u : AC :=
 (.seq (.seq (.region 0 [
 ⟨0, some 53, .mv (.t 3), none, []⟩,
 ⟨1, some 54, .mv (.t 53), none, []⟩,
 ⟨2, some 55, .mv (.t 5), some (54, true), []⟩,
 ⟨3, some 56, .bin .lss (.t 55) (.k (.sc (.int .i64 3))), some (54, true), []⟩,
 ⟨4, some 57, .pick (.t 54) (.t 56) (.k (.sc (.bool false))), none, []⟩] false [1, 3, 5, 57])
 (.cond (.t 57)
 (.skip)
 (.exit 2)))
 (.seq (.block 3 (.region 0 [
 ⟨0, some 60, .mv (.t 5), none, []⟩,
 ⟨1, some 61, .faddr 1 (.t 1), none, []⟩,
 ⟨2, some 62, .iarr 3 2 (.t 61) (.t 60), none, []⟩,
 ⟨3, some 63, .load (some 2) (.t 62), none, []⟩,
 ⟨4, some 64, .call true (.f 49) [.t 63, .k (.sc (.int .i64 0)), .k (.sc (.int .i64 6)), .k (.sc (.int .i64 1))], none, []⟩,
 ⟨5, some 3, .mv (.t 64), none, []⟩] false [1, 3, 5]))
 (.region 0 [
 ⟨0, some 58, .mv (.t 5), none, []⟩,
 ⟨1, some 59, .bin .add (.t 58) (.k (.sc (.int .i64 1))), none, []⟩,
 ⟨2, some 5, .mv (.t 59), none, []⟩] false [1, 3, 5])))
def a4w : AC := .loop [1, 3, 5] a4u
def a1p : AC :=
 (.seq (.seq (.region 0 [
 ⟨0, some 65, .mv (.t 3), none, []⟩,
 ⟨1, some 66, .mv (.t 65), none, []⟩,
 ⟨2, some 67, .mv (.t 6), some (66, true), []⟩,
 ⟨3, some 68, .faddr 7 (.t 1), some (66, true), []⟩,
 ⟨4, some 69, .load none (.t 68), some (66, true), []⟩,
 ⟨5, some 70, .len 1 (.t 69), some (66, true), []⟩,
 ⟨6, some 71, .bin .lss (.t 67) (.t 70), some (66, true), []⟩,
 ⟨7, some 72, .pick (.t 66) (.t 71) (.k (.sc (.bool false))), none, []⟩] false [1, 3, 6, 72])
 (.cond (.t 72)
 (.skip)
 (.exit 4)))
 (.seq (.block 5 (.seq (.region 1 [
 ⟨0, some 75, .faddr 7 (.t 1), none, []⟩,
 ⟨1, some 76, .load none (.t 75), none, []⟩,
 ⟨2, some 77, .mv (.t 6), none, []⟩,
 ⟨3, some 78, .iaddr 3 (.t 76) (.t 77), none, []⟩,
 ⟨4, some 79, .load (some 3) (.t 78), none, []⟩,
 ⟨5, some 7, .alloc 0 [.int .i64 0, .int .i64 0, .int .i64 0], none, []⟩,
 ⟨6, none, .store 3 (.t 7) (.t 79), none, []⟩] false [1, 6, 7])
 (.region 0 [
 ⟨0, some 80, .faddr 0 (.t 7), none, []⟩,
 ⟨1, some 81, .load none (.t 80), none, []⟩,
 ⟨2, some 82, .call true (.f 29) [.t 81, .k (.sc (.int .i64 0)), .k (.sc (.int .i64 2))], none, []⟩,
 ⟨3, some 83, .mv (.t 82), none, []⟩,
 ⟨4, some 84, .faddr 1 (.t 7), some (83, true), []⟩,
 ⟨5, some 85, .load none (.t 84), some (83, true), []⟩,
 ⟨6, some 86, .call true (.f 29) [.t 85, .k (.sc (.int .i64 0)), .k (.sc (.int .i64 2))], some (83, true), []⟩,
 ⟨7, some 87, .pick (.t 83) (.t 86) (.k (.sc (.bool false))), none, []⟩,
 ⟨8, some 3, .mv (.t 87), none, []⟩] false [1, 3, 6])))
 (.region 0 [
 ⟨0, some 73, .mv (.t 6), none, []⟩,
 ⟨1, some 74, .bin .add (.t 73) (.k (.sc (.int .i64 1))), none, []⟩,
 ⟨2, some 6, .mv (.t 74), none, []⟩] false [1, 3, 6])))
def a4x : AC := .loop [1, 3, 6] a1p
def a1q : AC :=
 (.seq (.seq (.region 0 [
 ⟨0, some 88, .mv (.t 3), none, []⟩,
 ⟨1, some 89, .mv (.t 88), none, []⟩,
 ⟨2, some 90, .mv (.t 8), some (89, true), []⟩,
 ⟨3, some 91, .faddr 9 (.t 1), some (89, true), []⟩,
 ⟨4, some 92, .load none (.t 91), some (89, true), []⟩,
 ⟨5, some 93, .len 1 (.t 92), some (89, true), []⟩,
 ⟨6, some 94, .bin .lss (.t 90) (.t 93), some (89, true), []⟩,
 ⟨7, some 95, .pick (.t 89) (.t 94) (.k (.sc (.bool false))), none, []⟩] false [1, 3, 8, 95])
 (.cond (.t 95)
 (.skip)
 (.exit 6)))
 (.seq (.block 7 (.seq (.region 1 [
 ⟨0, some 98, .faddr 9 (.t 1), none, []⟩,
 ⟨1, some 99, .load none (.t 98), none, []⟩,
 ⟨2, some 100, .mv (.t 8), none, []⟩,
 ⟨3, some 101, .iaddr 4 (.t 99) (.t 100), none, []⟩,
 ⟨4, some 102, .load (some 4) (.t 101), none, []⟩,
 ⟨5, some 9, .alloc 0 [.int .i64 0, .int .i64 0, .int .i64 0, .int .i64 0], none, []⟩,
 ⟨6, none, .store 4 (.t 9) (.t 102), none, []⟩] false [1, 8, 9])
 (.region 0 [
 ⟨0, some 103, .faddr 0 (.t 9), none, []⟩,
 ⟨1, some 104, .load none (.t 103), none, []⟩,
 ⟨2, some 105, .faddr 0 (.t 1), none, []⟩,
 ⟨3, some 106, .load none (.t 105), none, []⟩,
 ⟨4, some 107, .len 1 (.t 106), none, []⟩,
 ⟨5, some 108, .bin .sub (.t 107) (.k (.sc (.int .i64 1))), none, []⟩,
 ⟨6, some 109, .call true (.f 29) [.t 104, .k (.sc (.int .i64 0)), .t 108], none, []⟩,
 ⟨7, some 110, .mv (.t 109), none, []⟩,
 ⟨8, some 111, .faddr 1 (.t 9), some (110, true), []⟩,
 ⟨9, some 112, .load none (.t 111), some (110, true), []⟩,
 ⟨10, some 113, .faddr 7 (.t 1), some (110, true), []⟩,
 ⟨11, some 114, .load none (.t 113), some (110, true), []⟩,
 ⟨12, some 115, .len 1 (.t 114), some (110, true), []⟩,
 ⟨13, some 116, .bin .sub (.t 115) (.k (.sc (.int .i64 1))), some (110, true), []⟩,
 ⟨14, some 117, .call true (.f 29) [.t 112, .k (.sc (.int .i64 0)), .t 116], some (110, true), []⟩,
 ⟨15, some 118, .pick (.t 110) (.t 117) (.k (.sc (.bool false))), none, []⟩,
 ⟨16, some 119, .mv (.t 118), none, []⟩,
 ⟨17, some 120, .faddr 3 (.t 9), some (119, true), []⟩,
 ⟨18, some 121, .load none (.t 120), some (119, true), []⟩,
 ⟨19, some 122, .call true (.f 29) [.t 121, .k (.sc (.int .i64 0)), .k (.sc (.int .i64 3))], some (119, true), []⟩,
 ⟨20, some 123, .pick (.t 119) (.t 122) (.k (.sc (.bool false))), none, []⟩,
 ⟨21, some 3, .mv (.t 123), none, []⟩] false [1, 3, 8])))
 (.region 0 [
 ⟨0, some 96, .mv (.t 8), none, []⟩,
 ⟨1, some 97, .bin .add (.t 96) (.k (.sc (.int .i64 1))), none, []⟩,
 ⟨2, some 8, .mv (.t 97), none, []⟩] false [1, 3, 8])))
def a4y : AC := .loop [1, 3, 8] a1q
def a3k : Fn := ⟨1, 125, [(2, none)],
 (.seq (.region 1 [
 ⟨0, some 1, .box 0 (.t 0), none, []⟩,
 ⟨1, some 2, .mv (.k (.sc (.bool false))), none, []⟩] false [1])
 (.seq (.region 0 [
 ⟨0, some 10, .load (some 10) (.t 1), none, []⟩,
 ⟨1, some 11, .call true (.f 117) [.t 10], none, []⟩,
 ⟨2, some 12, .bin .eql (.t 11) (.k (.sc (.int .i64 0))), none, []⟩,
 ⟨3, some 13, .mv (.t 12), none, []⟩,
 ⟨4, some 14, .faddr 0 (.t 1), some (13, true), []⟩,
 ⟨5, some 15, .load none (.t 14), some (13, true), []⟩,
 ⟨6, some 16, .len 1 (.t 15), some (13, true), []⟩,
 ⟨7, some 17, .call true (.f 29) [.t 16, .k (.sc (.int .i64 1)), .k (.sc (.int .i64 3))], some (13, true), []⟩,
 ⟨8, some 18, .pick (.t 13) (.t 17) (.k (.sc (.bool false))), none, []⟩,
 ⟨9, some 19, .mv (.t 18), none, []⟩,
 ⟨10, some 20, .faddr 7 (.t 1), some (19, true), []⟩,
 ⟨11, some 21, .load none (.t 20), some (19, true), []⟩,
 ⟨12, some 22, .len 1 (.t 21), some (19, true), []⟩,
 ⟨13, some 23, .call true (.f 29) [.t 22, .k (.sc (.int .i64 1)), .k (.sc (.int .i64 5))], some (19, true), []⟩,
 ⟨14, some 24, .pick (.t 19) (.t 23) (.k (.sc (.bool false))), none, []⟩,
 ⟨15, some 25, .mv (.t 24), none, []⟩,
 ⟨16, some 26, .faddr 8 (.t 1), some (25, true), []⟩,
 ⟨17, some 27, .load none (.t 26), some (25, true), []⟩,
 ⟨18, some 28, .len 1 (.t 27), some (25, true), []⟩,
 ⟨19, some 29, .bin .leq (.t 28) (.k (.sc (.int .i64 6))), some (25, true), []⟩,
 ⟨20, some 30, .pick (.t 25) (.t 29) (.k (.sc (.bool false))), none, []⟩,
 ⟨21, some 31, .mv (.t 30), none, []⟩,
 ⟨22, some 32, .faddr 9 (.t 1), some (31, true), []⟩,
 ⟨23, some 33, .load none (.t 32), some (31, true), []⟩,
 ⟨24, some 34, .len 1 (.t 33), some (31, true), []⟩,
 ⟨25, some 35, .bin .leq (.t 34) (.k (.sc (.int .i64 4))), some (31, true), []⟩,
 ⟨26, some 36, .pick (.t 31) (.t 35) (.k (.sc (.bool false))), none, []⟩,
 ⟨27, some 3, .mv (.t 36), none, []⟩] false [1, 3])
 (.seq (.seq (.region 0 [
 ⟨0, some 4, .mv (.k (.sc (.int .i64 0))), none, []⟩] false [1, 3, 4])
 (.block 0 (a4v)))
 (.seq (.seq (.region 0 [
 ⟨0, some 5, .mv (.k (.sc (.int .i64 0))), none, []⟩] false [1, 3, 5])
 (.block 2 (a4w)))
 (.seq (.seq (.region 0 [
 ⟨0, some 6, .mv (.k (.sc (.int .i64 0))), none, []⟩] false [1, 3, 6])
 (.block 4 (a4x)))
 (.seq (.seq (.region 0 [
 ⟨0, some 8, .mv (.k (.sc (.int .i64 0))), none, []⟩] false [1, 3, 8])
 (.block 6 (a4y)))
 (.seq (.region 0 [
 ⟨0, some 124, .mv (.t 3), none, []⟩,
 ⟨1, some 2, .mv (.t 124), none, []⟩] false [2])
 (.ret)))))))), false⟩
def a2U : Fn := ⟨2, 17, [(4, none)],
 (.seq (.region 0 [
 ⟨0, some 4, .mv (.k (.sc (.int .i64 0))), none, []⟩] false [0, 1])
 (.seq (.seq (.region 0 [
 ⟨0, some 6, .mv (.t 1), none, []⟩,
 ⟨1, some 7, .bin .lss (.t 6) (.k (.sc (.int .i64 1))), none, []⟩] false [0, 1, 7])
 (.cond (.t 7)
 (.seq (.region 0 [
 ⟨0, some 4, .mv (.k (.sc (.int .i64 0))), none, []⟩] false [4])
 (.ret))
 (.skip)))
 (.seq (.region 0 [
 ⟨0, some 8, .mv (.t 0), none, []⟩,
 ⟨1, some 9, .mv (.t 1), none, []⟩,
 ⟨2, some 10, .bin .rem (.t 8) (.t 9), none, []⟩,
 ⟨3, some 5, .mv (.t 10), none, []⟩] false [1, 5])
 (.seq (.seq (.region 0 [
 ⟨0, some 11, .mv (.t 5), none, []⟩,
 ⟨1, some 12, .bin .lss (.t 11) (.k (.sc (.int .i64 0))), none, []⟩] false [1, 5, 12])
 (.cond (.t 12)
 (.region 0 [
 ⟨0, some 13, .mv (.t 5), none, []⟩,
 ⟨1, some 14, .mv (.t 1), none, []⟩,
 ⟨2, some 15, .bin .add (.t 13) (.t 14), none, []⟩,
 ⟨3, some 5, .mv (.t 15), none, []⟩] false [5])
 (.skip)))
 (.seq (.region 0 [
 ⟨0, some 16, .mv (.t 5), none, []⟩,
 ⟨1, some 4, .mv (.t 16), none, []⟩] false [4])
 (.ret)))))), false⟩
def a1T : AC :=
 (.seq (.region 0 [
 ⟨0, some 29, .bin .lss (.t 28) (.t 27), none, []⟩] false [1, 5, 6, 27, 28, 29])
 (.seq (.cond (.t 29)
 (.skip)
 (.exit 2))
 (.seq (.block 3 (.seq (.region 0 [
 ⟨0, some 30, .mv (.t 28), none, []⟩,
 ⟨1, some 7, .mv (.t 30), none, []⟩] false [1, 5, 6, 7, 27, 28])
 (.seq (.region 0 [
 ⟨0, some 31, .load (some 12) (.t 5), none, []⟩,
 ⟨1, some 32, .mv (.t 7), none, []⟩,
 ⟨2, some 33, .mv (.t 6), none, []⟩,
 ⟨3, some 34, .faddr 10 (.t 5), none, []⟩,
 ⟨4, some 35, .load none (.t 34), none, []⟩,
 ⟨5, some 36, .call true (.f 113) [.t 31, .t 32, .t 33, .t 35], none, []⟩] false [1, 5, 6, 7, 27, 28, 36])
 (.cond (.t 36)
 (.seq (.region 0 [
 ⟨0, some 37, .mv (.t 6), none, []⟩,
 ⟨1, some 38, .mv (.t 7), none, []⟩,
 ⟨2, some 2, .mv (.t 37), none, []⟩,
 ⟨3, some 3, .mv (.t 38), none, []⟩,
 ⟨4, some 4, .mv (.k (.sc (.int .i64 0))), none, []⟩] false [2, 3, 4])
 (.ret))
 (.skip)))))
 (.region 0 [
 ⟨0, some 39, .bin .add (.t 28) (.k (.sc (.int .i64 1))), none, []⟩,
 ⟨1, some 28, .mv (.t 39), none, []⟩] false [1, 5, 6, 27, 28]))))
def a8s : AC := .loop [1, 5, 6, 27, 28] a1T
def a4Z : AC :=
 (.seq (.seq (.region 0 [
 ⟨0, some 18, .mv (.t 6), none, []⟩,
 ⟨1, some 19, .faddr 7 (.t 1), none, []⟩,
 ⟨2, some 20, .load none (.t 19), none, []⟩,
 ⟨3, some 21, .len 1 (.t 20), none, []⟩,
 ⟨4, some 22, .bin .lss (.t 18) (.t 21), none, []⟩] false [1, 5, 6, 22])
 (.cond (.t 22)
 (.skip)
 (.exit 0)))
 (.seq (.block 1 (.seq (.region 0 [
 ⟨0, some 25, .faddr 0 (.t 1), none, []⟩,
 ⟨1, some 26, .load none (.t 25), none, []⟩,
 ⟨2, some 27, .len 1 (.t 26), none, []⟩,
 ⟨3, some 28, .mv (.k (.sc (.int .i64 0))), none, []⟩] false [1, 5, 6, 27, 28])
 (.block 2 (a8s))))
 (.region 0 [
 ⟨0, some 23, .mv (.t 6), none, []⟩,
 ⟨1, some 24, .bin .add (.t 23) (.k (.sc (.int .i64 1))), none, []⟩,
 ⟨2, some 6, .mv (.t 24), none, []⟩] false [1, 5, 6])))
def b2v : AC := .loop [1, 5, 6] a4Z
def a5i : Fn := ⟨1, 40, [(2, none), (3, none), (4, none)],
 (.seq (.region 1 [
 ⟨0, some 1, .box 0 (.t 0), none, []⟩,
 ⟨1, some 2, .mv (.k (.sc (.int .i64 0))), none, []⟩,
 ⟨2, some 3, .mv (.k (.sc (.int .i64 0))), none, []⟩,
 ⟨3, some 4, .mv (.k (.sc (.int .i64 0))), none, []⟩] false [1])
 (.seq (.region 1 [
 ⟨0, some 9, .load (some 10) (.t 1), none, []⟩,
 ⟨1, some 10, .call true (.f 111) [.t 9, .k (.sc (.bool true))], none, []⟩,
 ⟨2, some 8, .mv (.t 10), none, []⟩,
 ⟨3, some 11, .ext (.t 8) 0, none, []⟩,
 ⟨4, some 12, .ext (.t 8) 1, none, []⟩,
 ⟨5, some 5, .alloc 0 [.sl .nil 2 [], .int .i64 0, .int .i64 0, .int .i64 0, .int .i64 0, .int .i64 0, .int .i64 0, .sl .nil 3 [], .sl .nil 2 [], .sl .nil 4 [], .imap true false [], .sl .nil 4 []], none, []⟩,
 ⟨6, none, .store 12 (.t 5) (.t 11), none, []⟩,
 ⟨7, some 4, .mv (.t 12), none, []⟩] false [1, 4, 5])
 (.seq (.seq (.region 0 [
 ⟨0, some 13, .mv (.t 4), none, []⟩,
 ⟨1, some 14, .bin .neq (.t 13) (.k (.sc (.int .i64 0))), none, []⟩] false [1, 4, 5, 14])
 (.cond (.t 14)
 (.seq (.region 0 [
 ⟨0, some 15, .mv (.t 4), none, []⟩,
 ⟨1, some 2, .mv (.k (.sc (.int .i64 0))), none, []⟩,
 ⟨2, some 3, .mv (.k (.sc (.int .i64 0))), none, []⟩,
 ⟨3, some 4, .mv (.t 15), none, []⟩] false [2, 3, 4])
 (.ret))
 (.skip)))
 (.seq (.seq (.region 0 [
 ⟨0, some 16, .load (some 10) (.t 1), none, []⟩,
 ⟨1, some 17, .call true (.f 112) [.t 16], none, []⟩,
 ⟨2, some 6, .mv (.t 17), none, []⟩] false [1, 5, 6])
 (.block 0 (b2v)))
 (.seq (.region 0 [
 ⟨0, some 2, .mv (.k (.sc (.int .i64 0))), none, []⟩,
 ⟨1, some 3, .mv (.k (.sc (.int .i64 0))), none, []⟩,
 ⟨2, some 4, .mv (.k (.sc (.int .i64 4))), none, []⟩] false [2, 3, 4])
 (.ret)))))), false⟩
def a2u : Fn := ⟨3, 33, [(6, some (some 2)), (7, none)],
 (.seq (.region 2 [
 ⟨0, some 3, .box 0 (.t 0), none, []⟩,
 ⟨1, some 6, .alloc 1 [.int .i64 0, .int .i64 0], none, []⟩,
 ⟨2, some 7, .mv (.k (.sc (.int .i64 0))), none, []⟩] false [1, 2, 3, 6])
 (.seq (.region 1 [
 ⟨0, some 11, .load (some 10) (.t 3), none, []⟩,
 ⟨1, some 12, .load (some 10) (.t 3), none, []⟩,
 ⟨2, some 13, .mv (.t 1), none, []⟩,
 ⟨3, some 14, .call true (.f 153) [.t 12, .t 13], none, []⟩,
 ⟨4, some 15, .mv (.t 14), none, []⟩,
 ⟨5, some 16, .load (some 10) (.t 3), some (15, true), []⟩,
 ⟨6, some 17, .mv (.t 2), some (15, true), []⟩,
 ⟨7, some 18, .call true (.f 152) [.t 16, .t 17], some (15, true), []⟩,
 ⟨8, some 19, .pick (.t 15) (.t 18) (.k (.sc (.bool false))), none, []⟩,
 ⟨9, some 20, .call true (.f 111) [.t 11, .t 19], none, []⟩,
 ⟨10, some 10, .mv (.t 20), none, []⟩,
 ⟨11, some 21, .ext (.t 10) 0, none, []⟩,
 ⟨12, some 22, .ext (.t 10) 1, none, []⟩,
 ⟨13, some 8, .alloc 0 [.sl .nil 2 [], .int .i64 0, .int .i64 0, .int .i64 0, .int .i64 0, .int .i64 0, .int .i64 0, .sl .nil 3 [], .sl .nil 2 [], .sl .nil 4 [], .imap true false [], .sl .nil 4 []], none, [0, 1, 5]⟩,
 ⟨14, none, .store 12 (.t 8) (.t 21), none, []⟩,
 ⟨15, some 9, .mv (.t 22), none, []⟩] true [1, 2, 6, 8, 9])
 (.seq (.seq (.region 0 [
 ⟨0, some 23, .mv (.t 9), none, []⟩,
 ⟨1, some 24, .bin .neq (.t 23) (.k (.sc (.int .i64 0))), none, []⟩] false [1, 2, 6, 8, 9, 24])
 (.cond (.t 24)
 (.seq (.region 0 [
 ⟨0, some 25, .build [.int .i64 0, .int .i64 0] [], none, []⟩,
 ⟨1, some 26, .mv (.t 9), none, []⟩,
 ⟨2, none, .store 2 (.t 6) (.t 25), none, []⟩,
 ⟨3, some 7, .mv (.t 26), none, []⟩] false [6, 7])
 (.ret))
 (.skip)))
 (.seq (.region 0 [
 ⟨0, some 27, .load (some 12) (.t 8), none, []⟩,
 ⟨1, some 28, .mv (.t 1), none, []⟩,
 ⟨2, some 29, .mv (.t 2), none, []⟩,
 ⟨3, some 30, .faddr 10 (.t 8), none, []⟩,
 ⟨4, some 31, .load none (.t 30), none, []⟩,
 ⟨5, some 32, .call true (.f 167) [.t 27, .t 28, .t 29, .t 31], none, []⟩,
 ⟨6, none, .store 2 (.t 6) (.t 32), none, []⟩,
 ⟨7, some 7, .mv (.k (.sc (.int .i64 0))), none, []⟩] false [6, 7])
 (.ret))))), false⟩
def a1N : AC :=
 (.seq (.region 0 [
 ⟨0, some 24, .bin .lss (.t 23) (.t 22), none, []⟩] false [1, 6, 22, 23, 24])
 (.seq (.cond (.t 24)
 (.skip)
 (.exit 0))
 (.seq (.block 1 (.seq (.region 0 [
 ⟨0, some 25, .mv (.t 23), none, []⟩,
 ⟨1, some 8, .mv (.t 25), none, []⟩] false [1, 6, 8, 22, 23])
 (.seq (.region 0 [
 ⟨0, some 26, .load (some 12) (.t 6), none, []⟩,
 ⟨1, some 27, .mv (.t 1), none, []⟩,
 ⟨2, some 28, .mv (.t 8), none, []⟩,
 ⟨3, some 29, .faddr 10 (.t 6), none, []⟩,
 ⟨4, some 30, .load none (.t 29), none, []⟩,
 ⟨5, some 31, .call true (.f 146) [.t 26, .t 27, .t 28, .t 30], none, []⟩] false [1, 6, 8, 22, 23, 31])
 (.cond (.t 31)
 (.seq (.region 0 [
 ⟨0, some 32, .mv (.t 8), none, []⟩,
 ⟨1, some 4, .mv (.t 32), none, []⟩,
 ⟨2, some 5, .mv (.k (.sc (.int .i64 0))), none, []⟩] false [4, 5])
 (.ret))
 (.skip)))))
 (.region 0 [
 ⟨0, some 33, .bin .add (.t 23) (.k (.sc (.int .i64 1))), none, []⟩,
 ⟨1, some 23, .mv (.t 33), none, []⟩] false [1, 6, 22, 23]))))
def b1l : AC := .loop [1, 6, 22, 23] a1N
def a1Z : Fn := ⟨2, 34, [(4, none), (5, none)],
 (.seq (.region 1 [
 ⟨0, some 2, .box 0 (.t 0), none, []⟩,
 ⟨1, some 4, .mv (.k (.sc (.int .i64 0))), none, []⟩,
 ⟨2, some 5, .mv (.k (.sc (.int .i64 0))), none, []⟩] false [1, 2])
 (.seq (.region 1 [
 ⟨0, some 10, .load (some 10) (.t 2), none, []⟩,
 ⟨1, some 11, .load (some 10) (.t 2), none, []⟩,
 ⟨2, some 12, .mv (.t 1), none, []⟩,
 ⟨3, some 13, .call true (.f 153) [.t 11, .t 12], none, []⟩,
 ⟨4, some 14, .call true (.f 111) [.t 10, .t 13], none, []⟩,
 ⟨5, some 9, .mv (.t 14), none, []⟩,
 ⟨6, some 15, .ext (.t 9) 0, none, []⟩,
 ⟨7, some 16, .ext (.t 9) 1, none, []⟩,
 ⟨8, some 6, .alloc 0 [.sl .nil 2 [], .int .i64 0, .int .i64 0, .int .i64 0, .int .i64 0, .int .i64 0, .int .i64 0, .sl .nil 3 [], .sl .nil 2 [], .sl .nil 4 [], .imap true false [], .sl .nil 4 []], none, [0, 1]⟩,
 ⟨9, none, .store 12 (.t 6) (.t 15), none, []⟩,
 ⟨10, some 7, .mv (.t 16), none, []⟩] true [1, 2, 6, 7])
 (.seq (.seq (.region 0 [
 ⟨0, some 17, .mv (.t 7), none, []⟩,
 ⟨1, some 18, .bin .neq (.t 17) (.k (.sc (.int .i64 0))), none, []⟩] false [1, 2, 6, 7, 18])
 (.cond (.t 18)
 (.seq (.region 0 [
 ⟨0, some 19, .mv (.t 7), none, []⟩,
 ⟨1, some 4, .mv (.k (.sc (.int .i64 0))), none, []⟩,
 ⟨2, some 5, .mv (.t 19), none, []⟩] false [4, 5])
 (.ret))
 (.skip)))
 (.seq (.seq (.region 0 [
 ⟨0, some 20, .faddr 7 (.t 2), none, []⟩,
 ⟨1, some 21, .load none (.t 20), none, []⟩,
 ⟨2, some 22, .len 1 (.t 21), none, []⟩,
 ⟨3, some 23, .mv (.k (.sc (.int .i64 0))), none, []⟩] false [1, 6, 22, 23])
 (.block 0 (b1l)))
 (.seq (.region 0 [
 ⟨0, some 4, .mv (.k (.sc (.int .i64 0))), none, []⟩,
 ⟨1, some 5, .mv (.k (.sc (.int .i64 4))), none, []⟩] false [4, 5])
 (.ret)))))), false⟩
def a2w : Fn := ⟨3, 15, [(6, none)],
 (.seq (.region 0 [
 ⟨0, some 6, .mv (.k (.sc (.bool false))), none, []⟩] false [0, 1, 2])
 (.seq (.region 0 [
 ⟨0, some 7, .mv (.t 1), none, []⟩,
 ⟨1, some 8, .mv (.t 0), none, []⟩,
 ⟨2, some 9, .bin .leq (.t 7) (.t 8), none, []⟩,
 ⟨3, some 10, .mv (.t 9), none, []⟩,
 ⟨4, some 11, .mv (.t 0), some (10, true), []⟩,
 ⟨5, some 12, .mv (.t 2), some (10, true), []⟩,
 ⟨6, some 13, .bin .leq (.t 11) (.t 12), some (10, true), []⟩,
 ⟨7, some 14, .pick (.t 10) (.t 13) (.k (.sc (.bool false))), none, []⟩,
 ⟨8, some 6, .mv (.t 14), none, []⟩] false [6])
 (.ret))), false⟩
def a6B : Fn := ⟨2, 15, [(4, none), (5, none)],
 (.seq (.region 1 [
 ⟨0, some 2, .box 0 (.t 0), none, []⟩,
 ⟨1, some 4, .mv (.k (.sc (.bool false))), none, []⟩,
 ⟨2, some 5, .mv (.k (.sc (.int .i64 0))), none, []⟩] false [1, 2])
 (.seq (.seq (.region 0 [
 ⟨0, some 7, .load (some 10) (.t 2), none, []⟩,
 ⟨1, some 8, .call true (.f 117) [.t 7], none, []⟩,
 ⟨2, some 6, .mv (.t 8), none, []⟩] false [1, 2, 6])
 (.seq (.region 0 [
 ⟨0, some 9, .mv (.t 6), none, []⟩,
 ⟨1, some 10, .bin .neq (.t 9) (.k (.sc (.int .i64 0))), none, []⟩] false [1, 2, 6, 10])
 (.cond (.t 10)
 (.seq (.region 0 [
 ⟨0, some 11, .mv (.t 6), none, []⟩,
 ⟨1, some 4, .mv (.k (.sc (.bool false))), none, []⟩,
 ⟨2, some 5, .mv (.t 11), none, []⟩] false [4, 5])
 (.ret))
 (.skip))))
 (.seq (.region 0 [
 ⟨0, some 12, .load (some 10) (.t 2), none, []⟩,
 ⟨1, some 13, .mv (.t 1), none, []⟩,
 ⟨2, some 14, .call true (.f 118) [.t 12, .t 13], none, []⟩,
 ⟨3, some 4, .mv (.t 14), none, []⟩,
 ⟨4, some 5, .mv (.k (.sc (.int .i64 0))), none, []⟩] false [4, 5])
 (.ret)))), false⟩
def a1C : AC :=
 (.seq (.region 0 [
 ⟨0, some 35, .bin .lss (.t 34) (.t 33), none, []⟩] false [7, 9, 33, 34, 35])
 (.seq (.cond (.t 35)
 (.skip)
 (.exit 0))
 (.seq (.block 1 (.seq (.region 0 [
 ⟨0, some 36, .mv (.t 34), none, []⟩,
 ⟨1, some 10, .mv (.t 36), none, []⟩] false [7, 9, 10, 33, 34])
 (.seq (.region 0 [
 ⟨0, some 37, .load (some 12) (.t 7), none, []⟩,
 ⟨1, some 38, .mv (.t 10), none, []⟩,
 ⟨2, some 39, .mv (.t 9), none, []⟩,
 ⟨3, some 40, .call true (.f 122) [.t 37, .t 38, .t 39], none, []⟩,
 ⟨4, some 41, .un .not (.t 40), none, []⟩] false [7, 9, 33, 34, 41])
 (.cond (.t 41)
 (.seq (.region 0 [
 ⟨0, some 4, .mv (.k (.sc (.bool false))), none, []⟩,
 ⟨1, some 5, .mv (.k (.sc (.int .i64 0))), none, []⟩] false [4, 5])
 (.ret))
 (.skip)))))
 (.region 0 [
 ⟨0, some 42, .bin .add (.t 34) (.k (.sc (.int .i64 1))), none, []⟩,
 ⟨1, some 34, .mv (.t 42), none, []⟩] false [7, 9, 33, 34]))))
def a9b : AC := .loop [7, 9, 33, 34] a1C
def a1F : Fn := ⟨2, 46, [(4, none), (5, none)],
 (.seq (.region 1 [
 ⟨0, some 2, .box 0 (.t 0), none, []⟩,
 ⟨1, some 4, .mv (.k (.sc (.bool false))), none, []⟩,
 ⟨2, some 5, .mv (.k (.sc (.int .i64 0))), none, []⟩] false [1, 2])
 (.seq (.seq (.region 0 [
 ⟨0, some 11, .load (some 10) (.t 2), none, []⟩,
 ⟨1, some 12, .call true (.f 117) [.t 11], none, []⟩,
 ⟨2, some 6, .mv (.t 12), none, []⟩] false [1, 2, 6])
 (.seq (.region 0 [
 ⟨0, some 13, .mv (.t 6), none, []⟩,
 ⟨1, some 14, .bin .neq (.t 13) (.k (.sc (.int .i64 0))), none, []⟩] false [1, 2, 6, 14])
 (.cond (.t 14)
 (.seq (.region 0 [
 ⟨0, some 15, .mv (.t 6), none, []⟩,
 ⟨1, some 4, .mv (.k (.sc (.bool false))), none, []⟩,
 ⟨2, some 5, .mv (.t 15), none, []⟩] false [4, 5])
 (.ret))
 (.skip))))
 (.seq (.region 1 [
 ⟨0, some 17, .load (some 10) (.t 2), none, []⟩,
 ⟨1, some 18, .load (some 10) (.t 2), none, []⟩,
 ⟨2, some 19, .mv (.t 1), none, []⟩,
 ⟨3, some 20, .call true (.f 118) [.t 18, .t 19], none, []⟩,
 ⟨4, some 21, .call true (.f 111) [.t 17, .t 20], none, []⟩,
 ⟨5, some 16, .mv (.t 21), none, []⟩,
 ⟨6, some 22, .ext (.t 16) 0, none, []⟩,
 ⟨7, some 23, .ext (.t 16) 1, none, []⟩,
 ⟨8, some 7, .alloc 0 [.sl .nil 2 [], .int .i64 0, .int .i64 0, .int .i64 0, .int .i64 0, .int .i64 0, .int .i64 0, .sl .nil 3 [], .sl .nil 2 [], .sl .nil 4 [], .imap true false [], .sl .nil 4 []], none, [0, 1]⟩,
 ⟨9, none, .store 12 (.t 7) (.t 22), none, []⟩,
 ⟨10, some 8, .mv (.t 23), none, []⟩] true [1, 2, 7, 8])
 (.seq (.seq (.region 0 [
 ⟨0, some 24, .mv (.t 8), none, []⟩,
 ⟨1, some 25, .bin .neq (.t 24) (.k (.sc (.int .i64 0))), none, []⟩] false [1, 2, 7, 8, 25])
 (.cond (.t 25)
 (.seq (.region 0 [
 ⟨0, some 26, .mv (.t 8), none, []⟩,
 ⟨1, some 4, .mv (.k (.sc (.bool false))), none, []⟩,
 ⟨2, some 5, .mv (.t 26), none, []⟩] false [4, 5])
 (.ret))
 (.skip)))
 (.seq (.region 0 [
 ⟨0, some 27, .faddr 10 (.t 7), none, []⟩,
 ⟨1, some 28, .load none (.t 27), none, []⟩,
 ⟨2, some 29, .mv (.t 1), none, []⟩,
 ⟨3, some 30, .call true (.f 121) [.t 28, .t 29], none, []⟩,
 ⟨4, some 9, .mv (.t 30), none, []⟩] false [2, 7, 9])
 (.seq (.seq (.region 0 [
 ⟨0, some 31, .faddr 0 (.t 2), none, []⟩,
 ⟨1, some 32, .load none (.t 31), none, []⟩,
 ⟨2, some 33, .len 1 (.t 32), none, []⟩,
 ⟨3, some 34, .mv (.k (.sc (.int .i64 0))), none, []⟩] false [7, 9, 33, 34])
 (.block 0 (a9b)))
 (.seq (.region 0 [
 ⟨0, some 43, .load (some 12) (.t 7), none, []⟩,
 ⟨1, some 44, .mv (.t 9), none, []⟩,
 ⟨2, some 45, .call true (.f 123) [.t 43, .t 44], none, []⟩,
 ⟨3, some 4, .mv (.t 45), none, []⟩,
 ⟨4, some 5, .mv (.k (.sc (.int .i64 0))), none, []⟩] false [4, 5])
 (.ret)))))))), false⟩
def d2G : Fn := ⟨1, 15, [(2, none), (3, none)],
 (.seq (.region 1 [
 ⟨0, some 1, .box 0 (.t 0), none, []⟩,
 ⟨1, some 2, .mv (.k (.sc (.bool false))), none, []⟩,
 ⟨2, some 3, .mv (.k (.sc (.int .i64 0))), none, []⟩] false [1])
 (.seq (.seq (.region 0 [
 ⟨0, some 5, .load (some 10) (.t 1), none, []⟩,
 ⟨1, some 6, .call true (.f 117) [.t 5], none, []⟩,
 ⟨2, some 4, .mv (.t 6), none, []⟩] false [1, 4])
 (.seq (.region 0 [
 ⟨0, some 7, .mv (.t 4), none, []⟩,
 ⟨1, some 8, .bin .neq (.t 7) (.k (.sc (.int .i64 0))), none, []⟩] false [1, 4, 8])
 (.cond (.t 8)
 (.seq (.region 0 [
 ⟨0, some 9, .mv (.t 4), none, []⟩,
 ⟨1, some 2, .mv (.k (.sc (.bool false))), none, []⟩,
 ⟨2, some 3, .mv (.t 9), none, []⟩] false [2, 3])
 (.ret))
 (.skip))))
 (.seq (.region 0 [
 ⟨0, some 10, .load (some 10) (.t 1), none, []⟩,
 ⟨1, some 11, .call true (.f 144) [.t 10, .k (.sc (.sl .nil 1 []))], none, []⟩,
 ⟨2, some 12, .field 11 none (.t 11), none, []⟩,
 ⟨3, some 13, .len 1 (.t 12), none, []⟩,
 ⟨4, some 14, .bin .gtr (.t 13) (.k (.sc (.int .i64 0))), none, []⟩,
 ⟨5, some 2, .mv (.t 14), none, []⟩,
 ⟨6, some 3, .mv (.k (.sc (.int .i64 0))), none, []⟩] false [2, 3])
 (.ret)))), false⟩
def a6x : AC :=
 (.seq (.region 0 [
 ⟨0, some 40, .bin .lss (.t 39) (.t 38), none, []⟩] false [1, 3, 37, 38, 39, 40])
 (.seq (.cond (.t 40)
 (.skip)
 (.exit 0))
 (.seq (.block 1 (.seq (.region 1 [
 ⟨0, some 41, .iaddr 2 (.t 37) (.t 39), none, []⟩,
 ⟨1, some 42, .load (some 2) (.t 41), none, []⟩,
 ⟨2, some 5, .alloc 0 [.int .i64 0, .int .i64 0], none, []⟩,
 ⟨3, none, .store 2 (.t 5) (.t 42), none, []⟩] false [1, 3, 5, 37, 38, 39])
 (.region 0 [
 ⟨0, some 43, .mv (.t 3), none, []⟩,
 ⟨1, some 44, .mv (.t 43), none, []⟩,
 ⟨2, some 45, .load (some 2) (.t 5), some (44, true), []⟩,
 ⟨3, some 46, .call true (.f 151) [.t 45, .k (.sc (.int .i64 30)), .k (.sc (.int .i64 2))], some (44, true), []⟩,
 ⟨4, some 47, .pick (.t 44) (.t 46) (.k (.sc (.bool false))), none, []⟩,
 ⟨5, some 3, .mv (.t 47), none, []⟩] false [1, 3, 37, 38, 39])))
 (.region 0 [
 ⟨0, some 48, .bin .add (.t 39) (.k (.sc (.int .i64 1))), none, []⟩,
 ⟨1, some 39, .mv (.t 48), none, []⟩] false [1, 3, 37, 38, 39]))))
def a8n : AC := .loop [1, 3, 37, 38, 39] a6x
def a3T : AC :=
 (.seq (.region 0 [
 ⟨0, some 52, .bin .lss (.t 51) (.k (.sc (.int .i64 3))), none, []⟩] false [1, 3, 50, 51, 52])
 (.seq (.cond (.t 52)
 (.skip)
 (.exit 2))
 (.seq (.block 3 (.seq (.region 1 [
 ⟨0, some 53, .index 3 2 (some 2) (.t 50) (.t 51), none, []⟩,
 ⟨1, some 7, .alloc 0 [.int .i64 0, .int .i64 0], none, []⟩,
 ⟨2, none, .store 2 (.t 7) (.t 53), none, []⟩] false [1, 3, 7, 50, 51])
 (.region 0 [
 ⟨0, some 54, .mv (.t 3), none, []⟩,
 ⟨1, some 55, .mv (.t 54), none, []⟩,
 ⟨2, some 56, .load (some 2) (.t 7), some (55, true), []⟩,
 ⟨3, some 57, .call true (.f 151) [.t 56, .k (.sc (.int .i64 6)), .k (.sc (.int .i64 1))], some (55, true), []⟩,
 ⟨4, some 58, .pick (.t 55) (.t 57) (.k (.sc (.bool false))), none, []⟩,
 ⟨5, some 3, .mv (.t 58), none, []⟩] false [1, 3, 50, 51])))
 (.region 0 [
 ⟨0, some 59, .bin .add (.t 51) (.k (.sc (.int .i64 1))), none, []⟩,
 ⟨1, some 51, .mv (.t 59), none, []⟩] false [1, 3, 50, 51]))))
def a3f : AC := .loop [1, 3, 50, 51] a3T
def a6y : AC :=
 (.seq (.region 0 [
 ⟨0, some 64, .bin .lss (.t 63) (.t 62), none, []⟩] false [1, 3, 61, 62, 63, 64])
 (.seq (.cond (.t 64)
 (.skip)
 (.exit 4))
 (.seq (.block 5 (.seq (.region 1 [
 ⟨0, some 65, .iaddr 3 (.t 61) (.t 63), none, []⟩,
 ⟨1, some 66, .load (some 3) (.t 65), none, []⟩,
 ⟨2, some 9, .alloc 0 [.int .i64 0, .int .i64 0, .int .i64 0], none, []⟩,
 ⟨3, none, .store 3 (.t 9) (.t 66), none, []⟩] false [1, 3, 9, 61, 62, 63])
 (.region 0 [
 ⟨0, some 67, .mv (.t 3), none, []⟩,
 ⟨1, some 68, .mv (.t 67), none, []⟩,
 ⟨2, some 69, .faddr 0 (.t 9), some (68, true), []⟩,
 ⟨3, some 70, .load none (.t 69), some (68, true), []⟩,
 ⟨4, some 71, .call true (.f 150) [.t 70, .k (.sc (.int .i64 0)), .k (.sc (.int .i64 2))], some (68, true), []⟩,
 ⟨5, some 72, .pick (.t 68) (.t 71) (.k (.sc (.bool false))), none, []⟩,
 ⟨6, some 73, .mv (.t 72), none, []⟩,
 ⟨7, some 74, .faddr 1 (.t 9), some (73, true), []⟩,
 ⟨8, some 75, .load none (.t 74), some (73, true), []⟩,
 ⟨9, some 76, .call true (.f 150) [.t 75, .k (.sc (.int .i64 0)), .k (.sc (.int .i64 2))], some (73, true), []⟩,
 ⟨10, some 77, .pick (.t 73) (.t 76) (.k (.sc (.bool false))), none, []⟩,
 ⟨11, some 78, .mv (.t 77), none, []⟩,
 ⟨12, some 79, .faddr 2 (.t 9), some (78, true), []⟩,
 ⟨13, some 80, .load none (.t 79), some (78, true), []⟩,
 ⟨14, some 81, .call true (.f 150) [.t 80, .k (.sc (.int .i64 0)), .k (.sc (.int .i64 3))], some (78, true), []⟩,
 ⟨15, some 82, .pick (.t 78) (.t 81) (.k (.sc (.bool false))), none, []⟩,
 ⟨16, some 3, .mv (.t 82), none, []⟩] false [1, 3, 61, 62, 63])))
 (.region 0 [
 ⟨0, some 83, .bin .add (.t 63) (.k (.sc (.int .i64 1))), none, []⟩,
 ⟨1, some 63, .mv (.t 83), none, []⟩] false [1, 3, 61, 62, 63]))))
def a8o : AC := .loop [1, 3, 61, 62, 63] a6y
def a6z : AC :=
 (.seq (.region 0 [
 ⟨0, some 88, .bin .lss (.t 87) (.t 86), none, []⟩] false [1, 3, 85, 86, 87, 88])
 (.seq (.cond (.t 88)
 (.skip)
 (.exit 6))
 (.seq (.block 7 (.seq (.region 1 [
 ⟨0, some 89, .iaddr 2 (.t 85) (.t 87), none, []⟩,
 ⟨1, some 90, .load (some 2) (.t 89), none, []⟩,
 ⟨2, some 11, .alloc 0 [.int .i64 0, .int .i64 0], none, []⟩,
 ⟨3, none, .store 2 (.t 11) (.t 90), none, []⟩] false [1, 3, 11, 85, 86, 87])
 (.region 0 [
 ⟨0, some 91, .mv (.t 3), none, []⟩,
 ⟨1, some 92, .mv (.t 91), none, []⟩,
 ⟨2, some 93, .load (some 10) (.t 1), some (92, true), []⟩,
 ⟨3, some 94, .faddr 0 (.t 11), some (92, true), []⟩,
 ⟨4, some 95, .load none (.t 94), some (92, true), []⟩,
 ⟨5, some 96, .call true (.f 152) [.t 93, .t 95], some (92, true), []⟩,
 ⟨6, some 97, .pick (.t 92) (.t 96) (.k (.sc (.bool false))), none, []⟩,
 ⟨7, some 98, .mv (.t 97), none, []⟩,
 ⟨8, some 99, .load (some 10) (.t 1), some (98, true), []⟩,
 ⟨9, some 100, .faddr 1 (.t 11), some (98, true), []⟩,
 ⟨10, some 101, .load none (.t 100), some (98, true), []⟩,
 ⟨11, some 102, .call true (.f 153) [.t 99, .t 101], some (98, true), []⟩,
 ⟨12, some 103, .pick (.t 98) (.t 102) (.k (.sc (.bool false))), none, []⟩,
 ⟨13, some 3, .mv (.t 103), none, []⟩] false [1, 3, 85, 86, 87])))
 (.region 0 [
 ⟨0, some 104, .bin .add (.t 87) (.k (.sc (.int .i64 1))), none, []⟩,
 ⟨1, some 87, .mv (.t 104), none, []⟩] false [1, 3, 85, 86, 87]))))
def a8p : AC := .loop [1, 3, 85, 86, 87] a6z
def a6A : AC :=
 (.seq (.region 0 [
 ⟨0, some 109, .bin .lss (.t 108) (.t 107), none, []⟩] false [1, 3, 106, 107, 108, 109])
 (.seq (.cond (.t 109)
 (.skip)
 (.exit 8))
 (.seq (.block 9 (.seq (.region 1 [
 ⟨0, some 110, .iaddr 4 (.t 106) (.t 108), none, []⟩,
 ⟨1, some 111, .load (some 4) (.t 110), none, []⟩,
 ⟨2, some 13, .alloc 0 [.int .i64 0, .int .i64 0, .int .i64 0, .int .i64 0], none, []⟩,
 ⟨3, none, .store 4 (.t 13) (.t 111), none, []⟩] false [1, 3, 13, 106, 107, 108])
 (.region 0 [
 ⟨0, some 112, .mv (.t 3), none, []⟩,
 ⟨1, some 113, .mv (.t 112), none, []⟩,
 ⟨2, some 114, .load (some 10) (.t 1), some (113, true), []⟩,
 ⟨3, some 115, .load (some 4) (.t 13), some (113, true), []⟩,
 ⟨4, some 116, .call true (.f 154) [.t 114, .t 115], some (113, true), []⟩,
 ⟨5, some 117, .pick (.t 113) (.t 116) (.k (.sc (.bool false))), none, []⟩,
 ⟨6, some 3, .mv (.t 117), none, []⟩] false [1, 3, 106, 107, 108])))
 (.region 0 [
 ⟨0, some 118, .bin .add (.t 108) (.k (.sc (.int .i64 1))), none, []⟩,
 ⟨1, some 108, .mv (.t 118), none, []⟩] false [1, 3, 106, 107, 108]))))
def a8q : AC := .loop [1, 3, 106, 107, 108] a6A
def a6w : Fn := ⟨1, 121, [(2, none)],
 (.seq (.region 1 [
 ⟨0, some 1, .box 0 (.t 0), none, []⟩,
 ⟨1, some 2, .mv (.k (.sc (.int .i64 0))), none, []⟩] false [1])
 (.seq (.region 0 [
 ⟨0, some 14, .faddr 0 (.t 1), none, []⟩,
 ⟨1, some 15, .load none (.t 14), none, []⟩,
 ⟨2, some 16, .len 1 (.t 15), none, []⟩,
 ⟨3, some 17, .call true (.f 150) [.t 16, .k (.sc (.int .i64 1)), .k (.sc (.int .i64 3))], none, []⟩,
 ⟨4, some 18, .mv (.t 17), none, []⟩,
 ⟨5, some 19, .faddr 7 (.t 1), some (18, true), []⟩,
 ⟨6, some 20, .load none (.t 19), some (18, true), []⟩,
 ⟨7, some 21, .len 1 (.t 20), some (18, true), []⟩,
 ⟨8, some 22, .call true (.f 150) [.t 21, .k (.sc (.int .i64 1)), .k (.sc (.int .i64 5))], some (18, true), []⟩,
 ⟨9, some 23, .pick (.t 18) (.t 22) (.k (.sc (.bool false))), none, []⟩,
 ⟨10, some 24, .mv (.t 23), none, []⟩,
 ⟨11, some 25, .faddr 8 (.t 1), some (24, true), []⟩,
 ⟨12, some 26, .load none (.t 25), some (24, true), []⟩,
 ⟨13, some 27, .len 1 (.t 26), some (24, true), []⟩,
 ⟨14, some 28, .bin .leq (.t 27) (.k (.sc (.int .i64 6))), some (24, true), []⟩,
 ⟨15, some 29, .pick (.t 24) (.t 28) (.k (.sc (.bool false))), none, []⟩,
 ⟨16, some 30, .mv (.t 29), none, []⟩,
 ⟨17, some 31, .faddr 9 (.t 1), some (30, true), []⟩,
 ⟨18, some 32, .load none (.t 31), some (30, true), []⟩,
 ⟨19, some 33, .len 1 (.t 32), some (30, true), []⟩,
 ⟨20, some 34, .bin .leq (.t 33) (.k (.sc (.int .i64 4))), some (30, true), []⟩,
 ⟨21, some 35, .pick (.t 30) (.t 34) (.k (.sc (.bool false))), none, []⟩,
 ⟨22, some 3, .mv (.t 35), none, []⟩] false [1, 3])
 (.seq (.seq (.region 0 [
 ⟨0, some 36, .faddr 0 (.t 1), none, []⟩,
 ⟨1, some 37, .load none (.t 36), none, []⟩,
 ⟨2, some 38, .len 1 (.t 37), none, []⟩,
 ⟨3, some 39, .mv (.k (.sc (.int .i64 0))), none, []⟩] false [1, 3, 37, 38, 39])
 (.block 0 (a8n)))
 (.seq (.seq (.region 0 [
 ⟨0, some 49, .faddr 1 (.t 1), none, []⟩,
 ⟨1, some 50, .load (some 6) (.t 49), none, []⟩,
 ⟨2, some 51, .mv (.k (.sc (.int .i64 0))), none, []⟩] false [1, 3, 50, 51])
 (.block 2 (a3f)))
 (.seq (.seq (.region 0 [
 ⟨0, some 60, .faddr 7 (.t 1), none, []⟩,
 ⟨1, some 61, .load none (.t 60), none, []⟩,
 ⟨2, some 62, .len 1 (.t 61), none, []⟩,
 ⟨3, some 63, .mv (.k (.sc (.int .i64 0))), none, []⟩] false [1, 3, 61, 62, 63])
 (.block 4 (a8o)))
 (.seq (.seq (.region 0 [
 ⟨0, some 84, .faddr 8 (.t 1), none, []⟩,
 ⟨1, some 85, .load none (.t 84), none, []⟩,
 ⟨2, some 86, .len 1 (.t 85), none, []⟩,
 ⟨3, some 87, .mv (.k (.sc (.int .i64 0))), none, []⟩] false [1, 3, 85, 86, 87])
 (.block 6 (a8p)))
 (.seq (.seq (.region 0 [
 ⟨0, some 105, .faddr 9 (.t 1), none, []⟩,
 ⟨1, some 106, .load none (.t 105), none, []⟩,
 ⟨2, some 107, .len 1 (.t 106), none, []⟩,
 ⟨3, some 108, .mv (.k (.sc (.int .i64 0))), none, []⟩] false [1, 3, 106, 107, 108])
 (.block 8 (a8q)))
 (.seq (.seq (.region 0 [
 ⟨0, some 119, .mv (.t 3), none, []⟩,
 ⟨1, some 120, .un .not (.t 119), none, []⟩] false [120])
 (.cond (.t 120)
 (.seq (.region 0 [
 ⟨0, some 2, .mv (.k (.sc (.int .i64 40))), none, []⟩] false [2])
 (.ret))
 (.skip)))
 (.seq (.region 0 [
 ⟨0, some 2, .mv (.k (.sc (.int .i64 0))), none, []⟩] false [2])
 (.ret)))))))))), false⟩
def a2e : AC :=
 (.seq (.region 0 [
 ⟨0, some 37, .bin .lss (.t 36) (.t 35), none, []⟩] false [1, 4, 9, 34, 35, 36, 37])
 (.seq (.cond (.t 37)
 (.skip)
 (.exit 0))
 (.seq (.block 1 (.seq (.region 1 [
 ⟨0, some 38, .iaddr 4 (.t 34) (.t 36), none, []⟩,
 ⟨1, some 39, .load (some 4) (.t 38), none, []⟩,
 ⟨2, some 11, .alloc 0 [.int .i64 0, .int .i64 0, .int .i64 0, .sl .nil 1 []], none, []⟩,
 ⟨3, none, .store 4 (.t 11) (.t 39), none, []⟩] false [1, 4, 9, 11, 34, 35, 36])
 (.region 0 [
 ⟨0, some 40, .faddr 0 (.t 9), none, []⟩,
 ⟨1, some 41, .load none (.t 40), none, []⟩,
 ⟨2, some 42, .mv (.t 1), none, []⟩,
 ⟨3, some 43, .faddr 0 (.t 11), none, []⟩,
 ⟨4, some 44, .iarr 3 1 (.t 43) (.t 42), none, []⟩,
 ⟨5, some 45, .load none (.t 44), none, []⟩,
 ⟨6, some 46, .bslice 1 1 [.int .i64 0] [(0, .t 45)], none, []⟩,
 ⟨7, some 47, .call true (.f 169) [.t 41, .t 46], none, []⟩,
 ⟨8, some 48, .faddr 1 (.t 9), none, []⟩,
 ⟨9, some 49, .load none (.t 48), none, []⟩,
 ⟨10, some 50, .mv (.t 1), none, []⟩,
 ⟨11, some 51, .faddr 0 (.t 11), none, []⟩,
 ⟨12, some 52, .iarr 3 1 (.t 51) (.t 50), none, []⟩,
 ⟨13, some 53, .load none (.t 52), none, []⟩,
 ⟨14, some 54, .max (.t 49) [.t 53], none, []⟩,
 ⟨15, some 55, .build [.int .i64 0, .int .i64 0] [(0, 1, .t 47), (1, 1, .t 54)], none, []⟩,
 ⟨16, none, .store 2 (.t 9) (.t 55), none, []⟩] true [1, 4, 9, 34, 35, 36])))
 (.region 0 [
 ⟨0, some 56, .bin .add (.t 36) (.k (.sc (.int .i64 1))), none, []⟩,
 ⟨1, some 36, .mv (.t 56), none, []⟩] false [1, 4, 9, 34, 35, 36]))))
def a8r : AC := .loop [1, 4, 9, 34, 35, 36] a2e
def a2i : Fn := ⟨2, 58, [(4, some (some 2)), (5, none)],
 (.seq (.region 2 [
 ⟨0, some 2, .box 0 (.t 0), none, []⟩,
 ⟨1, some 4, .alloc 1 [.int .i64 0, .int .i64 0], none, []⟩,
 ⟨2, some 5, .mv (.k (.sc (.int .i64 0))), none, []⟩] false [1, 2, 4])
 (.seq (.region 1 [
 ⟨0, some 13, .load (some 10) (.t 2), none, []⟩,
 ⟨1, some 14, .mv (.t 1), none, []⟩,
 ⟨2, some 15, .call true (.f 150) [.t 14, .k (.sc (.int .i64 0)), .k (.sc (.int .i64 2))], none, []⟩,
 ⟨3, some 16, .call true (.f 111) [.t 13, .t 15], none, []⟩,
 ⟨4, some 12, .mv (.t 16), none, []⟩,
 ⟨5, some 17, .ext (.t 12) 0, none, []⟩,
 ⟨6, some 18, .ext (.t 12) 1, none, []⟩,
 ⟨7, some 6, .alloc 0 [.sl .nil 2 [], .int .i64 0, .int .i64 0, .int .i64 0, .int .i64 0, .int .i64 0, .int .i64 0, .sl .nil 3 [], .sl .nil 2 [], .sl .nil 4 [], .imap true false [], .sl .nil 4 []], none, [0]⟩,
 ⟨8, none, .store 12 (.t 6) (.t 17), none, []⟩,
 ⟨9, some 7, .mv (.t 18), none, []⟩] true [1, 4, 6, 7])
 (.seq (.seq (.region 0 [
 ⟨0, some 19, .mv (.t 7), none, []⟩,
 ⟨1, some 20, .bin .neq (.t 19) (.k (.sc (.int .i64 0))), none, []⟩] false [1, 4, 6, 7, 20])
 (.cond (.t 20)
 (.seq (.region 0 [
 ⟨0, some 21, .build [.int .i64 0, .int .i64 0] [], none, []⟩,
 ⟨1, some 22, .mv (.t 7), none, []⟩,
 ⟨2, none, .store 2 (.t 4) (.t 21), none, []⟩,
 ⟨3, some 5, .mv (.t 22), none, []⟩] false [4, 5])
 (.ret))
 (.skip)))
 (.seq (.region 0 [
 ⟨0, some 23, .faddr 11 (.t 6), none, []⟩,
 ⟨1, some 24, .load none (.t 23), none, []⟩,
 ⟨2, some 25, .mv (.t 1), none, []⟩,
 ⟨3, some 26, .iaddr 4 (.t 24) (.k (.sc (.int .i64 0))), none, []⟩,
 ⟨4, some 27, .faddr 0 (.t 26), none, []⟩,
 ⟨5, some 28, .iarr 3 1 (.t 27) (.t 25), none, []⟩,
 ⟨6, some 29, .load none (.t 28), none, []⟩,
 ⟨7, some 8, .mv (.t 29), none, []⟩] false [1, 4, 6, 8])
 (.seq (.region 1 [
 ⟨0, some 30, .mv (.t 8), none, []⟩,
 ⟨1, some 31, .mv (.t 8), none, []⟩,
 ⟨2, some 32, .build [.int .i64 0, .int .i64 0] [(0, 1, .t 30), (1, 1, .t 31)], none, []⟩,
 ⟨3, some 9, .alloc 0 [.int .i64 0, .int .i64 0], none, []⟩,
 ⟨4, none, .store 2 (.t 9) (.t 32), none, []⟩] false [1, 4, 6, 9])
 (.seq (.seq (.region 0 [
 ⟨0, some 33, .faddr 11 (.t 6), none, []⟩,
 ⟨1, some 34, .load none (.t 33), none, []⟩,
 ⟨2, some 35, .len 1 (.t 34), none, []⟩,
 ⟨3, some 36, .mv (.k (.sc (.int .i64 0))), none, []⟩] false [1, 4, 9, 34, 35, 36])
 (.block 0 (a8r)))
 (.seq (.region 0 [
 ⟨0, some 57, .load (some 2) (.t 9), none, []⟩,
 ⟨1, none, .store 2 (.t 4) (.t 57), none, []⟩,
 ⟨2, some 5, .mv (.k (.sc (.int .i64 0))), none, []⟩] false [4, 5])
 (.ret)))))))), false⟩
def a2l : AC :=
 (.seq (.region 0 [
 ⟨0, some 44, .bin .lss (.t 43) (.t 42), none, []⟩] false [4, 7, 8, 10, 29, 30, 33, 34, 35, 41, 42, 43, 44])
 (.seq (.cond (.t 44)
 (.skip)
 (.exit 4))
 (.seq (.block 5 (.seq (.region 0 [
 ⟨0, some 45, .iaddr 1 (.t 41) (.t 43), none, []⟩,
 ⟨1, some 46, .load none (.t 45), none, []⟩,
 ⟨2, some 12, .mv (.t 46), none, []⟩] false [4, 7, 8, 10, 12, 29, 30, 33, 34, 35, 41, 42, 43])
 (.region 0 [
 ⟨0, some 47, .mv (.tk 8), none, []⟩,
 ⟨1, some 48, .mv (.t 10), none, []⟩,
 ⟨2, some 49, .mv (.t 10), none, []⟩,
 ⟨3, some 50, .len 1 (.t 49), none, []⟩,
 ⟨4, some 51, .mv (.t 10), none, []⟩,
 ⟨5, some 52, .len 1 (.t 51), none, []⟩,
 ⟨6, some 53, .slice 2 (.t 48) none (some (.t 50)) (some (.t 52)), none, []⟩,
 ⟨7, some 54, .mv (.t 12), none, []⟩,
 ⟨8, some 55, .append 2 (.tk 53) (.t 54), none, []⟩,
 ⟨9, some 56, .bslice 1 1 [.sl .nil 2 []] [(0, .t 55)], none, []⟩,
 ⟨10, some 57, .append 1 (.tk 47) (.t 56), none, []⟩,
 ⟨11, some 8, .mv (.tk 57), none, []⟩] false [4, 7, 8, 10, 29, 30, 33, 34, 35, 41, 42, 43])))
 (.region 0 [
 ⟨0, some 58, .bin .add (.t 43) (.k (.sc (.int .i64 1))), none, []⟩,
 ⟨1, some 43, .mv (.t 58), none, []⟩] false [4, 7, 8, 10, 29, 30, 33, 34, 35, 41, 42, 43]))))
def a8Z : AC := .loop [4, 7, 8, 10, 29, 30, 33, 34, 35, 41, 42, 43] a2l
def a2k : AC :=
 (.seq (.region 0 [
 ⟨0, some 36, .bin .lss (.t 35) (.t 34), none, []⟩] false [4, 7, 8, 29, 30, 33, 34, 35, 36])
 (.seq (.cond (.t 36)
 (.skip)
 (.exit 2))
 (.seq (.block 3 (.seq (.region 0 [
 ⟨0, some 37, .iaddr 1 (.t 33) (.t 35), none, []⟩,
 ⟨1, some 38, .load none (.t 37), none, []⟩,
 ⟨2, some 10, .mv (.t 38), none, []⟩] false [4, 7, 8, 10, 29, 30, 33, 34, 35])
 (.seq (.region 0 [
 ⟨0, some 39, .load (some 12) (.t 4), none, []⟩,
 ⟨1, some 40, .mv (.t 7), none, []⟩,
 ⟨2, some 41, .call true (.f 127) [.t 39, .t 40], none, []⟩,
 ⟨3, some 42, .len 1 (.t 41), none, []⟩,
 ⟨4, some 43, .mv (.k (.sc (.int .i64 0))), none, []⟩] false [4, 7, 8, 10, 29, 30, 33, 34, 35, 41, 42, 43])
 (.block 4 (a8Z)))))
 (.region 0 [
 ⟨0, some 59, .bin .add (.t 35) (.k (.sc (.int .i64 1))), none, []⟩,
 ⟨1, some 35, .mv (.t 59), none, []⟩] false [4, 7, 8, 29, 30, 33, 34, 35]))))
def a8Y : AC := .loop [4, 7, 8, 29, 30, 33, 34, 35] a2k
def a6W : AC :=
 (.seq (.region 0 [
 ⟨0, some 31, .bin .lss (.t 30) (.t 29), none, []⟩] false [4, 6, 29, 30, 31])
 (.seq (.cond (.t 31)
 (.skip)
 (.exit 0))
 (.seq (.block 1 (.seq (.region 0 [
 ⟨0, some 32, .mv (.t 30), none, []⟩,
 ⟨1, some 7, .mv (.t 32), none, []⟩] false [4, 6, 7, 29, 30])
 (.seq (.region 0 [
 ⟨0, some 8, .mv (.k (.sc (.sl .nil 1 []))), none, []⟩] false [4, 6, 7, 8, 29, 30])
 (.seq (.seq (.region 0 [
 ⟨0, some 33, .mv (.t 6), none, []⟩,
 ⟨1, some 34, .len 1 (.t 33), none, []⟩,
 ⟨2, some 35, .mv (.k (.sc (.int .i64 0))), none, []⟩] false [4, 7, 8, 29, 30, 33, 34, 35])
 (.block 2 (a8Y)))
 (.region 0 [
 ⟨0, some 60, .mv (.t 8), none, []⟩,
 ⟨1, some 6, .mv (.t 60), none, []⟩] false [4, 6, 29, 30])))))
 (.region 0 [
 ⟨0, some 61, .bin .add (.t 30) (.k (.sc (.int .i64 1))), none, []⟩,
 ⟨1, some 30, .mv (.t 61), none, []⟩] false [4, 6, 29, 30]))))
def a8X : AC := .loop [4, 6, 29, 30] a6W
def a0s : AC :=
 (.seq (.region 0 [
 ⟨0, some 66, .bin .lss (.t 65) (.t 64), none, []⟩] false [4, 13, 14, 15, 63, 64, 65, 66])
 (.seq (.cond (.t 66)
 (.skip)
 (.exit 6))
 (.seq (.block 7 (.seq (.region 0 [
 ⟨0, some 67, .iaddr 1 (.t 63) (.t 65), none, []⟩,
 ⟨1, some 68, .load none (.t 67), none, []⟩,
 ⟨2, some 17, .mv (.t 68), none, []⟩] false [4, 13, 14, 15, 17, 63, 64, 65])
 (.seq (.seq (.region 0 [
 ⟨0, some 69, .mv (.t 14), none, []⟩,
 ⟨1, some 70, .mv (.t 69), none, []⟩,
 ⟨2, some 71, .mv (.t 17), some (70, true), []⟩,
 ⟨3, some 72, .len 1 (.t 71), some (70, true), []⟩,
 ⟨4, some 73, .mv (.t 13), some (70, true), []⟩,
 ⟨5, some 74, .len 1 (.t 73), some (70, true), []⟩,
 ⟨6, some 75, .bin .gtr (.t 72) (.t 74), some (70, true), []⟩,
 ⟨7, some 76, .pick (.t 70) (.t 75) (.k (.sc (.bool false))), none, []⟩] false [4, 13, 14, 15, 17, 63, 64, 65, 76])
 (.cond (.t 76)
 (.exit 7)
 (.skip)))
 (.seq (.region 0 [
 ⟨0, some 77, .mv (.t 17), none, []⟩,
 ⟨1, some 78, .call false (.f 231) [.t 77], none, []⟩,
 ⟨2, some 17, .mv (.t 78), none, []⟩] false [4, 13, 14, 15, 17, 63, 64, 65])
 (.seq (.region 0 [
 ⟨0, some 79, .mv (.t 17), none, []⟩,
 ⟨1, some 80, .call false (.f 130) [.t 79, .f 131], none, []⟩] false [4, 13, 14, 15, 17, 63, 64, 65])
 (.frzc 17 (.seq (.region 0 [
 ⟨0, some 81, .mv (.t 14), none, []⟩,
 ⟨1, some 82, .un .not (.t 81), none, []⟩,
 ⟨2, some 83, .mv (.t 82), none, []⟩,
 ⟨3, some 84, .faddr 0 (.t 15), some (83, false), []⟩,
 ⟨4, some 85, .load none (.t 84), some (83, false), []⟩,
 ⟨5, some 86, .mv (.t 17), some (83, false), []⟩,
 ⟨6, some 87, .mv (.t 13), some (83, false), []⟩,
 ⟨7, some 88, .call true (.t 85) [.t 86, .t 87], some (83, false), []⟩,
 ⟨8, some 89, .pick (.t 83) (.k (.sc (.bool true))) (.t 88), none, []⟩,
 ⟨9, some 90, .mv (.t 89), none, []⟩,
 ⟨10, some 91, .load (some 12) (.t 4), some (90, true), []⟩,
 ⟨11, some 92, .faddr 10 (.t 4), some (90, true), []⟩,
 ⟨12, some 93, .load none (.t 92), some (90, true), []⟩,
 ⟨13, some 94, .mv (.t 17), some (90, true), []⟩,
 ⟨14, some 95, .call true (.f 121) [.t 93, .t 94], some (90, true), []⟩,
 ⟨15, some 96, .call true (.f 123) [.t 91, .t 95], some (90, true), []⟩,
 ⟨16, some 97, .pick (.t 90) (.t 96) (.k (.sc (.bool false))), none, []⟩] true [4, 13, 14, 15, 17, 63, 64, 65, 97])
 (.cond (.t 97)
 (.region 0 [
 ⟨0, some 98, .mv (.t 17), none, []⟩,
 ⟨1, some 13, .mv (.t 98), none, []⟩,
 ⟨2, some 14, .mv (.k (.sc (.bool true))), none, []⟩] false [4, 13, 14, 15, 63, 64, 65])
 (.skip)))))))))
 (.region 0 [
 ⟨0, some 99, .bin .add (.t 65) (.k (.sc (.int .i64 1))), none, []⟩,
 ⟨1, some 65, .mv (.t 99), none, []⟩] false [4, 13, 14, 15, 63, 64, 65]))))
def a9a : AC := .loop [4, 13, 14, 15, 63, 64, 65] a0s
def a4U : Fn := ⟨1, 108, [(2, none), (3, none)],
 (.seq (.region 1 [
 ⟨0, some 1, .box 0 (.t 0), none, []⟩,
 ⟨1, some 2, .mv (.k (.sc (.sl .nil 2 []))), none, []⟩,
 ⟨2, some 3, .mv (.k (.sc (.int .i64 0))), none, []⟩] false [1])
 (.seq (.region 1 [
 ⟨0, some 19, .load (some 10) (.t 1), none, []⟩,
 ⟨1, some 20, .call true (.f 111) [.t 19, .k (.sc (.bool true))], none, []⟩,
 ⟨2, some 18, .mv (.t 20), none, []⟩,
 ⟨3, some 21, .ext (.t 18) 0, none, []⟩,
 ⟨4, some 22, .ext (.t 18) 1, none, []⟩,
 ⟨5, some 4, .alloc 0 [.sl .nil 2 [], .int .i64 0, .int .i64 0, .int .i64 0, .int .i64 0, .int .i64 0, .int .i64 0, .sl .nil 3 [], .sl .nil 2 [], .sl .nil 4 [], .imap true false [], .sl .nil 4 []], none, []⟩,
 ⟨6, none, .store 12 (.t 4) (.t 21), none, []⟩,
 ⟨7, some 5, .mv (.t 22), none, []⟩] false [1, 4, 5])
 (.seq (.seq (.region 0 [
 ⟨0, some 23, .mv (.t 5), none, []⟩,
 ⟨1, some 24, .bin .neq (.t 23) (.k (.sc (.int .i64 0))), none, []⟩] false [1, 4, 5, 24])
 (.cond (.t 24)
 (.seq (.region 0 [
 ⟨0, some 25, .mv (.t 5), none, []⟩,
 ⟨1, some 2, .mv (.k (.sc (.sl .nil 2 []))), none, []⟩,
 ⟨2, some 3, .mv (.t 25), none, []⟩] false [2, 3])
 (.ret))
 (.skip)))
 (.seq (.region 0 [
 ⟨0, some 26, .bslice 1 1 [.sl .nil 2 []] [(0, .k (.sc (.sl .nil 2 [])))], none, []⟩,
 ⟨1, some 6, .mv (.t 26), none, []⟩] false [1, 4, 6])
 (.seq (.seq (.region 0 [
 ⟨0, some 27, .faddr 0 (.t 1), none, []⟩,
 ⟨1, some 28, .load none (.t 27), none, []⟩,
 ⟨2, some 29, .len 1 (.t 28), none, []⟩,
 ⟨3, some 30, .mv (.k (.sc (.int .i64 0))), none, []⟩] false [4, 6, 29, 30])
 (.block 0 (a8X)))
 (.seq (.region 0 [
 ⟨0, some 13, .mv (.k (.sc (.sl .nil 2 []))), none, []⟩] false [4, 6, 13])
 (.seq (.region 1 [
 ⟨0, some 62, .call true (.f 128) [], none, []⟩,
 ⟨1, some 15, .alloc 0 [.nilf], none, []⟩,
 ⟨2, some 14, .mv (.k (.sc (.bool false))), none, []⟩,
 ⟨3, none, .store 1 (.t 15) (.t 62), none, []⟩] false [4, 6, 13, 14, 15])
 (.seq (.seq (.region 0 [
 ⟨0, some 63, .mv (.t 6), none, []⟩,
 ⟨1, some 64, .len 1 (.t 63), none, []⟩,
 ⟨2, some 65, .mv (.k (.sc (.int .i64 0))), none, []⟩] false [4, 13, 14, 15, 63, 64, 65])
 (.block 6 (a9a)))
 (.seq (.seq (.region 0 [
 ⟨0, some 100, .mv (.t 14), none, []⟩,
 ⟨1, some 101, .un .not (.t 100), none, []⟩] false [13, 101])
 (.cond (.t 101)
 (.seq (.region 0 [
 ⟨0, some 2, .mv (.k (.sc (.sl .nil 2 []))), none, []⟩,
 ⟨1, some 3, .mv (.k (.sc (.int .i64 4))), none, []⟩] false [2, 3])
 (.ret))
 (.skip)))
 (.seq (.region 0 [
 ⟨0, some 102, .mv (.t 13), none, []⟩,
 ⟨1, some 103, .mv (.t 13), none, []⟩,
 ⟨2, some 104, .len 1 (.t 103), none, []⟩,
 ⟨3, some 105, .mv (.t 13), none, []⟩,
 ⟨4, some 106, .len 1 (.t 105), none, []⟩,
 ⟨5, some 107, .slice 2 (.t 102) none (some (.t 104)) (some (.t 106)), none, []⟩,
 ⟨6, some 2, .mv (.t 107), none, []⟩,
 ⟨7, some 3, .mv (.k (.sc (.int .i64 0))), none, []⟩] false [2, 3])
 (.ret))))))))))), false⟩
def d4d : Fn := ⟨2, 11, [(4, none)],
 (.seq (.region 1 [
 ⟨0, some 2, .box 0 (.t 0), none, []⟩,
 ⟨1, some 4, .mv (.k (.sc (.bool false))), none, []⟩] false [1, 2])
 (.seq (.region 0 [
 ⟨0, some 5, .mv (.t 1), none, []⟩,
 ⟨1, some 6, .faddr 0 (.t 2), none, []⟩,
 ⟨2, some 7, .load none (.t 6), none, []⟩,
 ⟨3, some 8, .faddr 1 (.t 2), none, []⟩,
 ⟨4, some 9, .load none (.t 8), none, []⟩,
 ⟨5, some 10, .call true (.f 29) [.t 5, .t 7, .t 9], none, []⟩,
 ⟨6, some 4, .mv (.t 10), none, []⟩] false [4])
 (.ret))), false⟩
def a4A : Fn := ⟨1, 6, [(2, some (some 2))],
 (.seq (.region 1 [
 ⟨0, some 2, .alloc 0 [.int .i64 0, .int .i64 0], none, []⟩] false [0, 2])
 (.seq (.region 0 [
 ⟨0, some 3, .mv (.t 0), none, []⟩,
 ⟨1, some 4, .mv (.t 0), none, []⟩,
 ⟨2, some 5, .build [.int .i64 0, .int .i64 0] [(0, 1, .t 3), (1, 1, .t 4)], none, []⟩,
 ⟨3, none, .store 2 (.t 2) (.t 5), none, []⟩] false [2])
 (.ret))), false⟩
def d3H : Fn := ⟨2, 17, [(4, none)],
 (.seq (.region 2 [
 ⟨0, some 2, .box 0 (.t 0), none, []⟩,
 ⟨1, some 3, .box 1 (.t 1), none, []⟩,
 ⟨2, some 4, .mv (.k (.sc (.bool false))), none, []⟩] false [2, 3])
 (.seq (.region 0 [
 ⟨0, some 5, .faddr 0 (.t 3), none, []⟩,
 ⟨1, some 6, .load none (.t 5), none, []⟩,
 ⟨2, some 7, .faddr 0 (.t 2), none, []⟩,
 ⟨3, some 8, .load none (.t 7), none, []⟩,
 ⟨4, some 9, .bin .leq (.t 6) (.t 8), none, []⟩,
 ⟨5, some 10, .mv (.t 9), none, []⟩,
 ⟨6, some 11, .faddr 1 (.t 2), some (10, true), []⟩,
 ⟨7, some 12, .load none (.t 11), some (10, true), []⟩,
 ⟨8, some 13, .faddr 1 (.t 3), some (10, true), []⟩,
 ⟨9, some 14, .load none (.t 13), some (10, true), []⟩,
 ⟨10, some 15, .bin .leq (.t 12) (.t 14), some (10, true), []⟩,
 ⟨11, some 16, .pick (.t 10) (.t 15) (.k (.sc (.bool false))), none, []⟩,
 ⟨12, some 4, .mv (.t 16), none, []⟩] false [4])
 (.ret))), false⟩
def a4W : Fn := ⟨0, 2, [(0, some (some 10))],
 (.seq (.region 1 [
 ⟨0, some 0, .alloc 0 [.sl .nil 2 [], .int .i64 0, .int .i64 0, .int .i64 0, .int .i64 0, .int .i64 0, .int .i64 0, .sl .nil 3 [], .sl .nil 2 [], .sl .nil 4 []], none, []⟩] false [0])
 (.seq (.region 0 [
 ⟨0, some 1, .call true (.f 168) [.k (.sc (.int .i64 1)), .k (.sc (.sl .nil 4 []))], none, []⟩,
 ⟨1, none, .store 10 (.t 0) (.t 1), none, []⟩] false [0])
 (.ret))), false⟩
def a4s : Fn := ⟨2, 20, [(4, some (some 10))],
 (.seq (.region 1 [
 ⟨0, some 4, .alloc 0 [.sl .nil 2 [], .int .i64 0, .int .i64 0, .int .i64 0, .int .i64 0, .int .i64 0, .int .i64 0, .sl .nil 3 [], .sl .nil 2 [], .sl .nil 4 []], none, []⟩] false [0, 1, 4])
 (.seq (.region 0 [
 ⟨0, some 5, .call true (.f 33) [.k (.sc (.int .i64 10)), .k (.sc (.int .i64 11))], none, []⟩,
 ⟨1, some 6, .call true (.f 30) [.k (.sc (.int .i64 8))], none, []⟩,
 ⟨2, some 7, .bslice 2 2 [.int .i64 0, .int .i64 0] [(0, .t 5), (1, .t 6)], none, []⟩,
 ⟨3, some 8, .call true (.f 33) [.k (.sc (.int .i64 2)), .k (.sc (.int .i64 3))], none, []⟩,
 ⟨4, some 9, .call true (.f 30) [.k (.sc (.int .i64 4))], none, []⟩,
 ⟨5, some 10, .call true (.f 33) [.k (.sc (.int .i64 3)), .k (.sc (.int .i64 4))], none, []⟩,
 ⟨6, some 11, .build [.int .i64 0, .int .i64 0, .int .i64 0, .int .i64 0, .int .i64 0, .int .i64 0] [(0, 2, .t 8), (2, 2, .t 9), (4, 2, .t 10)], none, []⟩,
 ⟨7, some 12, .build [.int .i64 0, .int .i64 0, .int .i64 0] [(0, 1, .k (.sc (.int .i64 1))), (1, 1, .k (.sc (.int .i64 1))), (2, 1, .k (.sc (.int .i64 1)))], none, []⟩,
 ⟨8, some 13, .mv (.t 0), none, []⟩,
 ⟨9, some 14, .build [.int .i64 0, .int .i64 0, .int .i64 0] [(1, 1, .k (.sc (.int .i64 1))), (2, 1, .t 13)], none, []⟩,
 ⟨10, some 15, .build [.int .i64 0, .int .i64 0, .int .i64 0] [(1, 1, .k (.sc (.int .i64 1))), (2, 1, .k (.sc (.int .i64 1)))], none, []⟩,
 ⟨11, some 16, .build [.int .i64 0, .int .i64 0, .int .i64 0] [(0, 1, .k (.sc (.int .i64 2))), (2, 1, .k (.sc (.int .i64 1)))], none, []⟩,
 ⟨12, some 17, .bslice 3 4 [.int .i64 0, .int .i64 0, .int .i64 0] [(0, .t 12), (1, .t 14), (2, .t 15), (3, .t 16)], none, []⟩,
 ⟨13, some 18, .mv (.t 1), none, []⟩,
 ⟨14, some 19, .build [.sl .nil 2 [], .int .i64 0, .int .i64 0, .int .i64 0, .int .i64 0, .int .i64 0, .int .i64 0, .sl .nil 3 [], .sl .nil 2 [], .sl .nil 4 []] [(0, 1, .t 7), (1, 6, .t 11), (7, 1, .t 17), (9, 1, .t 18)], none, []⟩,
 ⟨15, none, .store 10 (.t 4) (.t 19), none, []⟩] false [4])
 (.ret))), false⟩
def a3N : Fn := ⟨2, 8, [(4, some (some 2))],
 (.seq (.region 1 [
 ⟨0, some 4, .alloc 0 [.int .i64 0, .int .i64 0], none, []⟩] false [0, 1, 4])
 (.seq (.region 0 [
 ⟨0, some 5, .mv (.t 0), none, []⟩,
 ⟨1, some 6, .mv (.t 1), none, []⟩,
 ⟨2, some 7, .build [.int .i64 0, .int .i64 0] [(0, 1, .t 5), (1, 1, .t 6)], none, []⟩,
 ⟨3, none, .store 2 (.t 4) (.t 7), none, []⟩] false [4])
 (.ret))), false⟩
def a6k : AC :=
 (.seq (.seq (.region 0 [
 ⟨0, some 5, .mv (.t 4), none, []⟩,
 ⟨1, some 6, .bin .add (.t 5) (.k (.sc (.int .i64 1))), none, []⟩,
 ⟨2, some 7, .mv (.t 0), none, []⟩,
 ⟨3, some 8, .len 1 (.t 7), none, []⟩,
 ⟨4, some 9, .bin .lss (.t 6) (.t 8), none, []⟩] false [0, 3, 4, 9])
 (.cond (.t 9)
 (.skip)
 (.exit 0)))
 (.seq (.block 1 (.region 0 [
 ⟨0, some 12, .mv (.tk 3), none, []⟩,
 ⟨1, some 13, .mv (.t 0), none, []⟩,
 ⟨2, some 14, .mv (.t 4), none, []⟩,
 ⟨3, some 15, .iaddr 1 (.t 13) (.t 14), none, []⟩,
 ⟨4, some 16, .load none (.t 15), none, []⟩,
 ⟨5, some 17, .mv (.t 0), none, []⟩,
 ⟨6, some 18, .mv (.t 4), none, []⟩,
 ⟨7, some 19, .bin .add (.t 18) (.k (.sc (.int .i64 1))), none, []⟩,
 ⟨8, some 20, .iaddr 1 (.t 17) (.t 19), none, []⟩,
 ⟨9, some 21, .load none (.t 20), none, []⟩,
 ⟨10, some 22, .build [.int .i64 0, .int .i64 0] [(0, 1, .t 16), (1, 1, .t 21)], none, []⟩,
 ⟨11, some 23, .bslice 2 1 [.int .i64 0, .int .i64 0] [(0, .t 22)], none, []⟩,
 ⟨12, some 24, .append 2 (.tk 12) (.t 23), none, []⟩,
 ⟨13, some 3, .mv (.tk 24), none, []⟩] true [0, 3, 4]))
 (.region 0 [
 ⟨0, some 10, .mv (.t 4), none, []⟩,
 ⟨1, some 11, .bin .add (.t 10) (.k (.sc (.int .i64 2))), none, []⟩,
 ⟨2, some 4, .mv (.t 11), none, []⟩] false [0, 3, 4])))
def a6l : AC := .loop [0, 3, 4] a6k
def a4c : Fn := ⟨1, 26, [(2, none)],
 (.seq (.region 0 [
 ⟨0, some 2, .mv (.k (.sc (.sl .nil 2 []))), none, []⟩] false [0])
 (.seq (.region 0 [
 ⟨0, some 3, .mv (.k (.sc (.sl .nil 2 []))), none, []⟩] false [0, 3])
 (.seq (.seq (.region 0 [
 ⟨0, some 4, .mv (.k (.sc (.int .i64 0))), none, []⟩] false [0, 3, 4])
 (.block 0 (a6l)))
 (.seq (.region 0 [
 ⟨0, some 25, .mv (.t 3), none, []⟩,
 ⟨1, some 2, .mv (.t 25), none, []⟩] false [2])
 (.ret))))), false⟩
def a4z : Fn := ⟨0, 5, [(0, some (some 10))],
 (.seq (.region 1 [
 ⟨0, some 0, .alloc 0 [.sl .nil 2 [], .int .i64 0, .int .i64 0, .int .i64 0, .int .i64 0, .int .i64 0, .int .i64 0, .sl .nil 3 [], .sl .nil 2 [], .sl .nil 4 []], none, []⟩] false [0])
 (.seq (.region 0 [
 ⟨0, some 1, .build [.int .i64 0, .int .i64 0, .int .i64 0, .int .i64 0] [(2, 1, .k (.sc (.int .i64 3)))], none, []⟩,
 ⟨1, some 2, .build [.int .i64 0, .int .i64 0, .int .i64 0, .int .i64 0] [(0, 1, .k (.sc (.int .i64 1))), (2, 1, .k (.sc (.int .i64 2)))], none, []⟩,
 ⟨2, some 3, .bslice 4 2 [.int .i64 0, .int .i64 0, .int .i64 0, .int .i64 0] [(0, .t 1), (1, .t 2)], none, []⟩,
 ⟨3, some 4, .call true (.f 168) [.k (.sc (.int .i64 1)), .t 3], none, []⟩,
 ⟨4, none, .store 10 (.t 0) (.t 4), none, []⟩] false [0])
 (.ret))), false⟩
def a4e : Fn := ⟨0, 4, [(0, some (some 10))],
 (.seq (.region 1 [
 ⟨0, some 0, .alloc 0 [.sl .nil 2 [], .int .i64 0, .int .i64 0, .int .i64 0, .int .i64 0, .int .i64 0, .int .i64 0, .sl .nil 3 [], .sl .nil 2 [], .sl .nil 4 []], none, []⟩] false [0])
 (.seq (.region 0 [
 ⟨0, some 1, .build [.int .i64 0, .int .i64 0, .int .i64 0, .int .i64 0] [(2, 1, .k (.sc (.int .i64 3)))], none, []⟩,
 ⟨1, some 2, .bslice 4 1 [.int .i64 0, .int .i64 0, .int .i64 0, .int .i64 0] [(0, .t 1)], none, []⟩,
 ⟨2, some 3, .call true (.f 168) [.k (.sc (.int .i64 1)), .t 2], none, []⟩,
 ⟨3, none, .store 10 (.t 0) (.t 3), none, []⟩] false [0])
 (.ret))), false⟩
def a1l : AC :=
 (.seq (.seq (.region 0 [
 ⟨0, some 12, .mv (.t 5), none, []⟩,
 ⟨1, some 13, .mv (.t 12), none, []⟩,
 ⟨2, some 14, .mv (.t 6), some (13, true), []⟩,
 ⟨3, some 15, .mv (.t 0), some (13, true), []⟩,
 ⟨4, some 16, .len 1 (.t 15), some (13, true), []⟩,
 ⟨5, some 17, .bin .lss (.t 14) (.t 16), some (13, true), []⟩,
 ⟨6, some 18, .pick (.t 13) (.t 17) (.k (.sc (.bool false))), none, []⟩] false [0, 1, 5, 6, 18])
 (.cond (.t 18)
 (.skip)
 (.exit 0)))
 (.seq (.block 1 (.region 0 [
 ⟨0, some 21, .mv (.t 0), none, []⟩,
 ⟨1, some 22, .mv (.t 6), none, []⟩,
 ⟨2, some 23, .iaddr 2 (.t 21) (.t 22), none, []⟩,
 ⟨3, some 24, .load (some 2) (.t 23), none, []⟩,
 ⟨4, some 25, .mv (.t 1), none, []⟩,
 ⟨5, some 26, .mv (.t 6), none, []⟩,
 ⟨6, some 27, .iaddr 2 (.t 25) (.t 26), none, []⟩,
 ⟨7, some 28, .load (some 2) (.t 27), none, []⟩,
 ⟨8, some 29, .eqf false ⟨true, [1, 1]⟩ (.t 24) (.t 28), none, []⟩,
 ⟨9, some 5, .mv (.t 29), none, []⟩] true [0, 1, 5, 6]))
 (.region 0 [
 ⟨0, some 19, .mv (.t 6), none, []⟩,
 ⟨1, some 20, .bin .add (.t 19) (.k (.sc (.int .i64 1))), none, []⟩,
 ⟨2, some 6, .mv (.t 20), none, []⟩] false [0, 1, 5, 6])))
def a6I : AC := .loop [0, 1, 5, 6] a1l
def a3x : Fn := ⟨2, 31, [(4, none)],
 (.seq (.region 0 [
 ⟨0, some 4, .mv (.k (.sc (.bool false))), none, []⟩] false [0, 1])
 (.seq (.region 0 [
 ⟨0, some 7, .mv (.t 0), none, []⟩,
 ⟨1, some 8, .len 1 (.t 7), none, []⟩,
 ⟨2, some 9, .mv (.t 1), none, []⟩,
 ⟨3, some 10, .len 1 (.t 9), none, []⟩,
 ⟨4, some 11, .bin .eql (.t 8) (.t 10), none, []⟩,
 ⟨5, some 5, .mv (.t 11), none, []⟩] false [0, 1, 5])
 (.seq (.seq (.region 0 [
 ⟨0, some 6, .mv (.k (.sc (.int .i64 0))), none, []⟩] false [0, 1, 5, 6])
 (.block 0 (a6I)))
 (.seq (.region 0 [
 ⟨0, some 30, .mv (.t 5), none, []⟩,
 ⟨1, some 4, .mv (.t 30), none, []⟩] false [4])
 (.ret))))), false⟩
def a3C : Fn := ⟨2, 25, [(4, some (some 12)), (5, none)],
 (.seq (.region 2 [
 ⟨0, some 2, .box 0 (.t 0), none, []⟩,
 ⟨1, some 4, .alloc 1 [.sl .nil 2 [], .int .i64 0, .int .i64 0, .int .i64 0, .int .i64 0, .int .i64 0, .int .i64 0, .sl .nil 3 [], .sl .nil 2 [], .sl .nil 4 [], .imap true false [], .sl .nil 4 []], none, []⟩,
 ⟨2, some 5, .mv (.k (.sc (.int .i64 0))), none, []⟩] false [1, 2, 4])
 (.seq (.seq (.region 0 [
 ⟨0, some 8, .load (some 10) (.t 2), none, []⟩,
 ⟨1, some 9, .call true (.f 117) [.t 8], none, []⟩,
 ⟨2, some 6, .mv (.t 9), none, []⟩] false [1, 2, 4, 6])
 (.seq (.region 0 [
 ⟨0, some 10, .mv (.t 6), none, []⟩,
 ⟨1, some 11, .bin .neq (.t 10) (.k (.sc (.int .i64 0))), none, []⟩] false [1, 2, 4, 6, 11])
 (.cond (.t 11)
 (.seq (.region 0 [
 ⟨0, some 12, .build [.sl .nil 2 [], .int .i64 0, .int .i64 0, .int .i64 0, .int .i64 0, .int .i64 0, .int .i64 0, .sl .nil 3 [], .sl .nil 2 [], .sl .nil 4 [], .imap true false [], .sl .nil 4 []] [], none, []⟩,
 ⟨1, some 13, .mv (.t 6), none, []⟩,
 ⟨2, none, .store 12 (.t 4) (.t 12), none, []⟩,
 ⟨3, some 5, .mv (.t 13), none, []⟩] false [4, 5])
 (.ret))
 (.skip))))
 (.seq (.seq (.region 0 [
 ⟨0, some 14, .mv (.t 1), none, []⟩,
 ⟨1, some 15, .un .not (.t 14), none, []⟩] false [2, 4, 15])
 (.cond (.t 15)
 (.seq (.region 0 [
 ⟨0, some 16, .build [.sl .nil 2 [], .int .i64 0, .int .i64 0, .int .i64 0, .int .i64 0, .int .i64 0, .int .i64 0, .sl .nil 3 [], .sl .nil 2 [], .sl .nil 4 [], .imap true false [], .sl .nil 4 []] [], none, []⟩,
 ⟨1, none, .store 12 (.t 4) (.t 16), none, []⟩,
 ⟨2, some 5, .mv (.k (.sc (.int .i64 41))), none, []⟩] false [4, 5])
 (.ret))
 (.skip)))
 (.seq (.region 1 [
 ⟨0, some 17, .load (some 10) (.t 2), none, []⟩,
 ⟨1, some 18, .call true (.f 144) [.t 17, .k (.sc (.sl .nil 1 []))], none, []⟩,
 ⟨2, some 7, .alloc 0 [.sl .nil 2 [], .int .i64 0, .int .i64 0, .int .i64 0, .int .i64 0, .int .i64 0, .int .i64 0, .sl .nil 3 [], .sl .nil 2 [], .sl .nil 4 [], .imap true false [], .sl .nil 4 []], none, []⟩,
 ⟨3, none, .store 12 (.t 7) (.t 18), none, []⟩] false [4, 7])
 (.seq (.seq (.region 0 [
 ⟨0, some 19, .faddr 11 (.t 7), none, []⟩,
 ⟨1, some 20, .load none (.t 19), none, []⟩,
 ⟨2, some 21, .len 1 (.t 20), none, []⟩,
 ⟨3, some 22, .bin .eql (.t 21) (.k (.sc (.int .i64 0))), none, []⟩] false [4, 7, 22])
 (.cond (.t 22)
 (.seq (.region 0 [
 ⟨0, some 23, .load (some 12) (.t 7), none, []⟩,
 ⟨1, none, .store 12 (.t 4) (.t 23), none, []⟩,
 ⟨2, some 5, .mv (.k (.sc (.int .i64 42))), none, []⟩] false [4, 5])
 (.ret))
 (.skip)))
 (.seq (.region 0 [
 ⟨0, some 24, .load (some 12) (.t 7), none, []⟩,
 ⟨1, none, .store 12 (.t 4) (.t 24), none, []⟩,
 ⟨2, some 5, .mv (.k (.sc (.int .i64 0))), none, []⟩] false [4, 5])
 (.ret))))))), false⟩
def a5N : Fn := ⟨2, 25, [(4, none)],
 (.seq (.region 2 [
 ⟨0, some 2, .box 0 (.t 0), none, []⟩,
 ⟨1, some 3, .box 1 (.t 1), none, []⟩,
 ⟨2, some 4, .mv (.k (.sc (.bool false))), none, []⟩] false [2, 3])
 (.seq (.region 0 [
 ⟨0, some 5, .load (some 10) (.t 2), none, []⟩,
 ⟨1, some 6, .faddr 0 (.t 3), none, []⟩,
 ⟨2, some 7, .load none (.t 6), none, []⟩,
 ⟨3, some 8, .call true (.f 153) [.t 5, .t 7], none, []⟩,
 ⟨4, some 9, .mv (.t 8), none, []⟩,
 ⟨5, some 10, .load (some 10) (.t 2), some (9, true), []⟩,
 ⟨6, some 11, .faddr 1 (.t 3), some (9, true), []⟩,
 ⟨7, some 12, .load none (.t 11), some (9, true), []⟩,
 ⟨8, some 13, .call true (.f 152) [.t 10, .t 12], some (9, true), []⟩,
 ⟨9, some 14, .pick (.t 9) (.t 13) (.k (.sc (.bool false))), none, []⟩,
 ⟨10, some 15, .mv (.t 14), none, []⟩,
 ⟨11, some 16, .faddr 2 (.t 3), some (15, true), []⟩,
 ⟨12, some 17, .load none (.t 16), some (15, true), []⟩,
 ⟨13, some 18, .call true (.f 150) [.t 17, .k (.sc (.int .i64 (-150))), .k (.sc (.int .i64 30))], some (15, true), []⟩,
 ⟨14, some 19, .pick (.t 15) (.t 18) (.k (.sc (.bool false))), none, []⟩,
 ⟨15, some 20, .mv (.t 19), none, []⟩,
 ⟨16, some 21, .faddr 3 (.t 3), some (20, true), []⟩,
 ⟨17, some 22, .load none (.t 21), some (20, true), []⟩,
 ⟨18, some 23, .call true (.f 150) [.t 22, .k (.sc (.int .i64 0)), .k (.sc (.int .i64 3))], some (20, true), []⟩,
 ⟨19, some 24, .pick (.t 20) (.t 23) (.k (.sc (.bool false))), none, []⟩,
 ⟨20, some 4, .mv (.t 24), none, []⟩] false [4])
 (.ret))), false⟩
def a1Q : AC :=
 (.seq (.seq (.region 0 [
 ⟨0, some 36, .mv (.t 12), none, []⟩,
 ⟨1, some 37, .faddr 1 (.t 10), none, []⟩,
 ⟨2, some 38, .load none (.t 37), none, []⟩,
 ⟨3, some 39, .bin .leq (.t 36) (.t 38), none, []⟩] false [3, 5, 6, 7, 8, 9, 10, 11, 12, 27, 28, 29, 39])
 (.cond (.t 39)
 (.skip)
 (.exit 4)))
 (.seq (.block 5 (.seq (.region 0 [
 ⟨0, some 42, .load none (.t 6), none, []⟩,
 ⟨1, some 43, .load (some 3) (.t 7), none, []⟩,
 ⟨2, some 44, .mv (.t 9), none, []⟩,
 ⟨3, some 45, .mv (.t 12), none, []⟩,
 ⟨4, some 46, .load none (.t 3), none, []⟩,
 ⟨5, some 47, .call true (.t 42) [.t 43, .t 44, .t 45, .t 46], none, []⟩] false [3, 5, 6, 7, 8, 9, 10, 11, 12, 27, 28, 29, 47])
 (.cond (.t 47)
 (.region 0 [
 ⟨0, some 48, .mv (.tk 11), none, []⟩,
 ⟨1, some 49, .mv (.t 12), none, []⟩,
 ⟨2, some 50, .bslice 1 1 [.int .i64 0] [(0, .t 49)], none, []⟩,
 ⟨3, some 51, .append 1 (.tk 48) (.t 50), none, []⟩,
 ⟨4, some 11, .mv (.tk 51), none, []⟩] false [3, 5, 6, 7, 8, 9, 10, 11, 12, 27, 28, 29])
 (.skip))))
 (.region 0 [
 ⟨0, some 40, .mv (.t 12), none, []⟩,
 ⟨1, some 41, .bin .add (.t 40) (.k (.sc (.int .i64 1))), none, []⟩,
 ⟨2, some 12, .mv (.t 41), none, []⟩] false [3, 5, 6, 7, 8, 9, 10, 11, 12, 27, 28, 29])))
def a8c : AC := .loop [3, 5, 6, 7, 8, 9, 10, 11, 12, 27, 28, 29] a1Q
def a1P : AC :=
 (.seq (.region 0 [
 ⟨0, some 30, .bin .lss (.t 29) (.t 28), none, []⟩] false [3, 5, 6, 7, 8, 27, 28, 29, 30])
 (.seq (.cond (.t 30)
 (.skip)
 (.exit 2))
 (.seq (.block 3 (.seq (.region 1 [
 ⟨0, some 31, .mv (.t 29), none, []⟩,
 ⟨1, some 32, .iaddr 2 (.t 27) (.t 29), none, []⟩,
 ⟨2, some 33, .load (some 2) (.t 32), none, []⟩,
 ⟨3, some 10, .alloc 0 [.int .i64 0, .int .i64 0], none, []⟩,
 ⟨4, some 9, .mv (.t 31), none, []⟩,
 ⟨5, none, .store 2 (.t 10) (.t 33), none, []⟩] false [3, 5, 6, 7, 8, 9, 10, 27, 28, 29])
 (.seq (.region 0 [
 ⟨0, some 11, .mv (.k (.sc (.sl .nil 1 []))), none, []⟩] false [3, 5, 6, 7, 8, 9, 10, 11, 27, 28, 29])
 (.seq (.seq (.region 0 [
 ⟨0, some 34, .faddr 0 (.t 10), none, []⟩,
 ⟨1, some 35, .load none (.t 34), none, []⟩,
 ⟨2, some 12, .mv (.t 35), none, []⟩] false [3, 5, 6, 7, 8, 9, 10, 11, 12, 27, 28, 29])
 (.block 4 (a8c)))
 (.seq (.seq (.region 0 [
 ⟨0, some 52, .mv (.t 11), none, []⟩,
 ⟨1, some 53, .len 1 (.t 52), none, []⟩,
 ⟨2, some 54, .bin .eql (.t 53) (.k (.sc (.int .i64 0))), none, []⟩] false [3, 5, 6, 7, 8, 11, 27, 28, 29, 54])
 (.cond (.t 54)
 (.exit 1)
 (.skip)))
 (.region 0 [
 ⟨0, some 55, .faddr 3 (.t 8), none, []⟩,
 ⟨1, some 56, .loadT (.t 55), none, []⟩,
 ⟨2, some 57, .mv (.t 11), none, []⟩,
 ⟨3, some 58, .bslice 1 1 [.sl .nil 1 []] [(0, .t 57)], none, []⟩,
 ⟨4, some 59, .append 1 (.tk 56) (.t 58), none, []⟩,
 ⟨5, some 60, .faddr 3 (.t 8), none, []⟩,
 ⟨6, none, .store 1 (.t 60) (.tk 59), none, []⟩] false [3, 5, 6, 7, 8, 27, 28, 29]))))))
 (.region 0 [
 ⟨0, some 61, .bin .add (.t 29) (.k (.sc (.int .i64 1))), none, []⟩,
 ⟨1, some 29, .mv (.t 61), none, []⟩] false [3, 5, 6, 7, 8, 27, 28, 29]))))
def a5V : AC := .loop [3, 5, 6, 7, 8, 27, 28, 29] a1P
def a2x : AC :=
 (.region 1 [
 ⟨0, some 7, .alloc 0 [.int .i64 0, .int .i64 0, .int .i64 0], none, []⟩,
 ⟨1, none, .store 3 (.t 7) (.t 23), none, []⟩] false [2, 3, 5, 6, 7])
def a2y : AC :=
 (.block 1 (.seq (.region 1 [
 ⟨0, some 24, .load (some 3) (.t 7), none, []⟩,
 ⟨1, some 25, .build [.int .i64 0, .int .i64 0, .int .i64 0, .sl .nil 1 []] [(0, 3, .t 24)], none, []⟩,
 ⟨2, some 8, .alloc 0 [.int .i64 0, .int .i64 0, .int .i64 0, .sl .nil 1 []], none, []⟩,
 ⟨3, none, .store 4 (.t 8) (.t 25), none, []⟩] false [2, 3, 5, 6, 7, 8])
 (.seq (.seq (.region 0 [
 ⟨0, some 26, .faddr 0 (.t 2), none, []⟩,
 ⟨1, some 27, .load none (.t 26), none, []⟩,
 ⟨2, some 28, .len 1 (.t 27), none, []⟩,
 ⟨3, some 29, .mv (.k (.sc (.int .i64 0))), none, []⟩] false [3, 5, 6, 7, 8, 27, 28, 29])
 (.block 2 (a5V)))
 (.region 0 [
 ⟨0, some 62, .faddr 11 (.t 5), none, []⟩,
 ⟨1, some 63, .loadT (.t 62), none, []⟩,
 ⟨2, some 64, .load (some 4) (.t 8), none, []⟩,
 ⟨3, some 65, .bslice 4 1 [.int .i64 0, .int .i64 0, .int .i64 0, .sl .nil 1 []] [(0, .t 64)], none, []⟩,
 ⟨4, some 66, .append 4 (.tk 63) (.t 65), none, []⟩,
 ⟨5, some 67, .faddr 11 (.t 5), none, []⟩,
 ⟨6, none, .store 1 (.t 67) (.tk 66), none, []⟩] false []))))
def a5P : Fn := ⟨2, 69, [(4, some (some 12))],
 (.seq (.region 3 [
 ⟨0, some 2, .box 0 (.t 0), none, []⟩,
 ⟨1, some 3, .box 1 (.t 1), none, []⟩,
 ⟨2, some 4, .alloc 2 [.sl .nil 2 [], .int .i64 0, .int .i64 0, .int .i64 0, .int .i64 0, .int .i64 0, .int .i64 0, .sl .nil 3 [], .sl .nil 2 [], .sl .nil 4 [], .imap true false [], .sl .nil 4 []], none, []⟩] false [2, 3, 4])
 (.seq (.region 2 [
 ⟨0, some 13, .load (some 10) (.t 2), none, []⟩,
 ⟨1, some 14, .kset 0 2, none, [0]⟩,
 ⟨2, some 15, .faddr 8 (.t 2), none, []⟩,
 ⟨3, some 16, .load none (.t 15), none, [1]⟩,
 ⟨4, some 17, .call true (.f 121) [.t 14, .t 16], none, []⟩,
 ⟨5, some 18, .build [.sl .nil 2 [], .int .i64 0, .int .i64 0, .int .i64 0, .int .i64 0, .int .i64 0, .int .i64 0, .sl .nil 3 [], .sl .nil 2 [], .sl .nil 4 [], .imap true false [], .sl .nil 4 []] [(0, 10, .t 13), (10, 1, .t 17)], none, []⟩,
 ⟨6, some 5, .alloc 1 [.sl .nil 2 [], .int .i64 0, .int .i64 0, .int .i64 0, .int .i64 0, .int .i64 0, .int .i64 0, .sl .nil 3 [], .sl .nil 2 [], .sl .nil 4 [], .imap true false [], .sl .nil 4 []], none, [0, 3]⟩,
 ⟨7, none, .store 12 (.t 5) (.t 18), none, []⟩] true [2, 3, 4, 5])
 (.seq (.region 1 [
 ⟨0, some 19, .load (some 12) (.t 5), none, []⟩,
 ⟨1, some 20, .mkf 171 [some 12] [.t 19] [], none, []⟩,
 ⟨2, some 6, .alloc 0 [.nilf], none, []⟩,
 ⟨3, none, .store 1 (.t 6) (.t 20), none, []⟩] false [2, 3, 4, 5, 6])
 (.seq (.seq (.region 0 [
 ⟨0, some 21, .load (some 12) (.t 5), none, []⟩,
 ⟨1, some 22, .call true (.f 172) [.t 21], none, []⟩] false [2, 3, 4, 5, 6, 22])
 (.block 0 (.rfunc (.t 22) [23] a2x a2y)))
 (.seq (.region 0 [
 ⟨0, some 68, .load (some 12) (.t 5), none, []⟩,
 ⟨1, none, .store 12 (.t 4) (.t 68), none, []⟩] false [4])
 (.ret)))))), false⟩
def a1G : AC :=
 (.seq (.seq (.region 0 [
 ⟨0, some 34, .mv (.t 10), none, []⟩,
 ⟨1, some 35, .faddr 9 (.t 2), none, []⟩,
 ⟨2, some 36, .load none (.t 35), none, []⟩,
 ⟨3, some 37, .len 1 (.t 36), none, []⟩,
 ⟨4, some 38, .bin .lss (.t 34) (.t 37), none, []⟩] false [0, 1, 2, 3, 8, 10, 38])
 (.cond (.t 38)
 (.skip)
 (.exit 0)))
 (.seq (.block 1 (.seq (.region 0 [
 ⟨0, some 42, .load none (.t 3), none, []⟩,
 ⟨1, some 43, .mv (.t 0), none, []⟩,
 ⟨2, some 44, .mv (.t 8), none, []⟩,
 ⟨3, some 45, .mv (.t 8), none, []⟩,
 ⟨4, some 46, .slice 1 (.t 43) none (some (.t 44)) (some (.t 45)), none, []⟩,
 ⟨5, some 47, .mv (.t 10), none, []⟩,
 ⟨6, some 48, .bslice 1 1 [.int .i64 0] [(0, .t 47)], none, []⟩,
 ⟨7, some 49, .append 1 (.tk 46) (.t 48), none, []⟩,
 ⟨8, some 50, .mv (.t 1), none, []⟩,
 ⟨9, some 51, .call false (.t 42) [.t 49, .t 50], none, []⟩,
 ⟨10, some 41, .mv (.t 51), none, []⟩,
 ⟨11, some 52, .ext (.t 41) 0, none, []⟩,
 ⟨12, some 53, .ext (.t 41) 1, none, []⟩,
 ⟨13, some 11, .mv (.t 52), none, []⟩,
 ⟨14, some 12, .mv (.t 53), none, []⟩] true [0, 1, 2, 3, 8, 10, 11, 12])
 (.seq (.region 0 [
 ⟨0, some 54, .mv (.t 12), none, []⟩] false [0, 1, 2, 3, 8, 10, 11, 54])
 (.cond (.t 54)
 (.seq (.region 0 [
 ⟨0, some 55, .mv (.t 11), none, []⟩,
 ⟨1, some 6, .mv (.t 55), none, []⟩,
 ⟨2, some 7, .mv (.k (.sc (.bool true))), none, []⟩] false [6, 7])
 (.ret))
 (.skip)))))
 (.region 0 [
 ⟨0, some 39, .mv (.t 10), none, []⟩,
 ⟨1, some 40, .bin .add (.t 39) (.k (.sc (.int .i64 1))), none, []⟩,
 ⟨2, some 10, .mv (.t 40), none, []⟩] false [0, 1, 2, 3, 8, 10])))
def a5x : AC := .loop [0, 1, 2, 3, 8, 10] a1G
def a1d : Fn := ⟨4, 56, [(6, none), (7, none)],
 (.seq (.region 0 [
 ⟨0, some 6, .mv (.k (.sc (.sl .nil 1 []))), none, []⟩,
 ⟨1, some 7, .mv (.k (.sc (.bool false))), none, []⟩] false [0, 1, 2, 3])
 (.seq (.region 0 [
 ⟨0, some 13, .mv (.t 0), none, []⟩,
 ⟨1, some 14, .len 1 (.t 13), none, []⟩,
 ⟨2, some 8, .mv (.t 14), none, []⟩] false [0, 1, 2, 3, 8])
 (.seq (.seq (.region 0 [
 ⟨0, some 15, .mv (.t 8), none, []⟩,
 ⟨1, some 16, .mv (.t 1), none, []⟩,
 ⟨2, some 17, .bin .eql (.t 15) (.t 16), none, []⟩] false [0, 1, 2, 3, 8, 17])
 (.cond (.t 17)
 (.seq (.region 0 [
 ⟨0, some 18, .mv (.t 0), none, []⟩,
 ⟨1, some 19, .load (some 10) (.t 2), none, []⟩,
 ⟨2, some 20, .mv (.t 0), none, []⟩,
 ⟨3, some 21, .call true (.f 144) [.t 19, .t 20], none, []⟩,
 ⟨4, some 22, .field 11 none (.t 21), none, []⟩,
 ⟨5, some 23, .len 1 (.t 22), none, []⟩,
 ⟨6, some 24, .bin .gtr (.t 23) (.k (.sc (.int .i64 0))), none, []⟩,
 ⟨7, some 6, .mv (.t 18), none, []⟩,
 ⟨8, some 7, .mv (.t 24), none, []⟩] false [6, 7])
 (.ret))
 (.skip)))
 (.seq (.region 0 [
 ⟨0, some 9, .mv (.k (.sc (.int .i64 0))), none, []⟩] false [0, 1, 2, 3, 8, 9])
 (.seq (.seq (.region 0 [
 ⟨0, some 25, .mv (.t 8), none, []⟩,
 ⟨1, some 26, .bin .gtr (.t 25) (.k (.sc (.int .i64 0))), none, []⟩] false [0, 1, 2, 3, 8, 9, 26])
 (.cond (.t 26)
 (.region 0 [
 ⟨0, some 27, .mv (.t 0), none, []⟩,
 ⟨1, some 28, .mv (.t 8), none, []⟩,
 ⟨2, some 29, .bin .sub (.t 28) (.k (.sc (.int .i64 1))), none, []⟩,
 ⟨3, some 30, .iaddr 1 (.t 27) (.t 29), none, []⟩,
 ⟨4, some 31, .load none (.t 30), none, []⟩,
 ⟨5, some 32, .bin .add (.t 31) (.k (.sc (.int .i64 1))), none, []⟩,
 ⟨6, some 9, .mv (.t 32), none, []⟩] false [0, 1, 2, 3, 8, 9])
 (.skip)))
 (.seq (.seq (.region 0 [
 ⟨0, some 33, .mv (.t 9), none, []⟩,
 ⟨1, some 10, .mv (.t 33), none, []⟩] false [0, 1, 2, 3, 8, 10])
 (.block 0 (a5x)))
 (.seq (.region 0 [
 ⟨0, some 6, .mv (.k (.sc (.sl .nil 1 []))), none, []⟩,
 ⟨1, some 7, .mv (.k (.sc (.bool false))), none, []⟩] false [6, 7])
 (.ret)))))))), false⟩
def a4b : Fn := ⟨0, 2, [(0, some (some 10))],
 (.seq (.region 1 [
 ⟨0, some 0, .alloc 0 [.sl .nil 2 [], .int .i64 0, .int .i64 0, .int .i64 0, .int .i64 0, .int .i64 0, .int .i64 0, .sl .nil 3 [], .sl .nil 2 [], .sl .nil 4 []], none, []⟩] false [0])
 (.seq (.region 0 [
 ⟨0, some 1, .call true (.f 168) [.k (.sc (.int .i64 2)), .k (.sc (.sl .nil 4 []))], none, []⟩,
 ⟨1, none, .store 10 (.t 0) (.t 1), none, []⟩] false [0])
 (.ret))), false⟩
def a2v : Fn := ⟨4, 35, [(8, none)],
 (.seq (.region 1 [
 ⟨0, some 4, .box 0 (.t 0), none, []⟩,
 ⟨1, some 8, .mv (.k (.sc (.bool false))), none, []⟩] false [1, 2, 3, 4])
 (.seq (.region 0 [
 ⟨0, some 9, .mv (.t 1), none, []⟩,
 ⟨1, some 10, .faddr 0 (.t 4), none, []⟩,
 ⟨2, some 11, .load none (.t 10), none, []⟩,
 ⟨3, some 12, .bin .leq (.t 9) (.t 11), none, []⟩,
 ⟨4, some 13, .mv (.t 12), none, []⟩,
 ⟨5, some 14, .faddr 0 (.t 4), some (13, true), []⟩,
 ⟨6, some 15, .load none (.t 14), some (13, true), []⟩,
 ⟨7, some 16, .faddr 1 (.t 4), some (13, true), []⟩,
 ⟨8, some 17, .load none (.t 16), some (13, true), []⟩,
 ⟨9, some 18, .bin .leq (.t 15) (.t 17), some (13, true), []⟩,
 ⟨10, some 19, .pick (.t 13) (.t 18) (.k (.sc (.bool false))), none, []⟩,
 ⟨11, some 20, .mv (.t 19), none, []⟩,
 ⟨12, some 21, .faddr 1 (.t 4), some (20, true), []⟩,
 ⟨13, some 22, .load none (.t 21), some (20, true), []⟩,
 ⟨14, some 23, .mv (.t 2), some (20, true), []⟩,
 ⟨15, some 24, .bin .leq (.t 22) (.t 23), some (20, true), []⟩,
 ⟨16, some 25, .pick (.t 20) (.t 24) (.k (.sc (.bool false))), none, []⟩,
 ⟨17, some 26, .mv (.t 25), none, []⟩,
 ⟨18, some 27, .faddr 1 (.t 4), some (26, true), []⟩,
 ⟨19, some 28, .load none (.t 27), some (26, true), []⟩,
 ⟨20, some 29, .faddr 0 (.t 4), some (26, true), []⟩,
 ⟨21, some 30, .load none (.t 29), some (26, true), []⟩,
 ⟨22, some 31, .bin .sub (.t 28) (.t 30), some (26, true), []⟩,
 ⟨23, some 32, .mv (.t 3), some (26, true), []⟩,
 ⟨24, some 33, .bin .leq (.t 31) (.t 32), some (26, true), []⟩,
 ⟨25, some 34, .pick (.t 26) (.t 33) (.k (.sc (.bool false))), none, []⟩,
 ⟨26, some 8, .mv (.t 34), none, []⟩] false [8])
 (.ret))), false⟩
def a2m : AC :=
 (.seq (.region 0 [
 ⟨0, some 10, .bin .lss (.t 9) (.t 8), none, []⟩] false [3, 7, 8, 9, 10])
 (.seq (.cond (.t 10)
 (.skip)
 (.exit 0))
 (.seq (.block 1 (.seq (.region 1 [
 ⟨0, some 11, .iaddr 4 (.t 7) (.t 9), none, []⟩,
 ⟨1, some 12, .load (some 4) (.t 11), none, []⟩,
 ⟨2, some 5, .alloc 0 [.int .i64 0, .int .i64 0, .int .i64 0, .int .i64 0], none, []⟩,
 ⟨3, none, .store 4 (.t 5) (.t 12), none, []⟩] false [3, 5, 7, 8, 9])
 (.region 0 [
 ⟨0, some 13, .mv (.t 3), none, []⟩,
 ⟨1, some 14, .faddr 1 (.t 5), none, []⟩,
 ⟨2, some 15, .load none (.t 14), none, []⟩,
 ⟨3, some 16, .bin .add (.t 15) (.k (.sc (.int .i64 1))), none, []⟩,
 ⟨4, some 17, .max (.t 13) [.t 16], none, []⟩,
 ⟨5, some 3, .mv (.t 17), none, []⟩] false [3, 7, 8, 9])))
 (.region 0 [
 ⟨0, some 18, .bin .add (.t 9) (.k (.sc (.int .i64 1))), none, []⟩,
 ⟨1, some 9, .mv (.t 18), none, []⟩] false [3, 7, 8, 9]))))
def a9d : AC := .loop [3, 7, 8, 9] a2m
def a7d : Fn := ⟨1, 20, [(2, none)],
 (.seq (.region 1 [
 ⟨0, some 1, .box 0 (.t 0), none, []⟩,
 ⟨1, some 2, .mv (.k (.sc (.int .i64 0))), none, []⟩] false [1])
 (.seq (.region 0 [
 ⟨0, some 3, .mv (.k (.sc (.int .i64 0))), none, []⟩] false [1, 3])
 (.seq (.seq (.region 0 [
 ⟨0, some 6, .faddr 9 (.t 1), none, []⟩,
 ⟨1, some 7, .load none (.t 6), none, []⟩,
 ⟨2, some 8, .len 1 (.t 7), none, []⟩,
 ⟨3, some 9, .mv (.k (.sc (.int .i64 0))), none, []⟩] false [3, 7, 8, 9])
 (.block 0 (a9d)))
 (.seq (.region 0 [
 ⟨0, some 19, .mv (.t 3), none, []⟩,
 ⟨1, some 2, .mv (.t 19), none, []⟩] false [2])
 (.ret))))), false⟩
def a3V : Fn := ⟨4, 21, [(8, none)],
 (.seq (.region 1 [
 ⟨0, some 4, .box 0 (.t 0), none, []⟩,
 ⟨1, some 8, .mv (.k (.sc (.bool false))), none, []⟩] false [1, 2, 3, 4])
 (.seq (.region 0 [
 ⟨0, some 9, .load (some 12) (.t 4), none, []⟩,
 ⟨1, some 10, .mv (.t 1), none, []⟩,
 ⟨2, some 11, .mv (.t 2), none, []⟩,
 ⟨3, some 12, .mv (.t 3), none, []⟩,
 ⟨4, some 13, .call true (.f 145) [.t 9, .t 10, .t 11, .t 12], none, []⟩,
 ⟨5, some 14, .mv (.t 13), none, []⟩,
 ⟨6, some 15, .load (some 12) (.t 4), some (14, false), []⟩,
 ⟨7, some 16, .mv (.t 1), some (14, false), []⟩,
 ⟨8, some 17, .mv (.t 2), some (14, false), []⟩,
 ⟨9, some 18, .mv (.t 3), some (14, false), []⟩,
 ⟨10, some 19, .call true (.f 146) [.t 15, .t 16, .t 17, .t 18], some (14, false), []⟩,
 ⟨11, some 20, .pick (.t 14) (.k (.sc (.bool true))) (.t 19), none, []⟩,
 ⟨12, some 8, .mv (.t 20), none, []⟩] false [8])
 (.ret))), false⟩
def a5b : Fn := ⟨2, 11, [(4, none)],
 (.seq (.region 1 [
 ⟨0, some 2, .box 0 (.t 0), none, []⟩,
 ⟨1, some 4, .mv (.k (.sc (.bool false))), none, []⟩] false [1, 2])
 (.seq (.region 0 [
 ⟨0, some 5, .mv (.t 1), none, []⟩,
 ⟨1, some 6, .faddr 0 (.t 2), none, []⟩,
 ⟨2, some 7, .load none (.t 6), none, []⟩,
 ⟨3, some 8, .len 1 (.t 7), none, []⟩,
 ⟨4, some 9, .bin .sub (.t 8) (.k (.sc (.int .i64 1))), none, []⟩,
 ⟨5, some 10, .call true (.f 150) [.t 5, .k (.sc (.int .i64 0)), .t 9], none, []⟩,
 ⟨6, some 4, .mv (.t 10), none, []⟩] false [4])
 (.ret))), false⟩
def a6G : Fn := ⟨2, 11, [(4, none)],
 (.seq (.region 1 [
 ⟨0, some 2, .box 0 (.t 0), none, []⟩,
 ⟨1, some 4, .mv (.k (.sc (.bool false))), none, []⟩] false [1, 2])
 (.seq (.region 0 [
 ⟨0, some 5, .mv (.t 1), none, []⟩,
 ⟨1, some 6, .faddr 7 (.t 2), none, []⟩,
 ⟨2, some 7, .load none (.t 6), none, []⟩,
 ⟨3, some 8, .len 1 (.t 7), none, []⟩,
 ⟨4, some 9, .bin .sub (.t 8) (.k (.sc (.int .i64 1))), none, []⟩,
 ⟨5, some 10, .call true (.f 150) [.t 5, .k (.sc (.int .i64 0)), .t 9], none, []⟩,
 ⟨6, some 4, .mv (.t 10), none, []⟩] false [4])
 (.ret))), false⟩
def a1E : AC :=
 (.seq (.region 0 [
 ⟨0, some 28, .bin .lss (.t 27) (.t 26), none, []⟩] false [1, 2, 3, 4, 8, 9, 11, 15, 16, 17, 25, 26, 27, 28])
 (.seq (.cond (.t 28)
 (.skip)
 (.exit 2))
 (.seq (.block 3 (.seq (.region 0 [
 ⟨0, some 29, .iaddr 1 (.t 25) (.t 27), none, []⟩,
 ⟨1, some 30, .load none (.t 29), none, []⟩,
 ⟨2, some 13, .mv (.t 30), none, []⟩] false [1, 2, 3, 4, 8, 9, 11, 13, 15, 16, 17, 25, 26, 27])
 (.region 0 [
 ⟨0, some 31, .mv (.tk 9), none, []⟩,
 ⟨1, some 32, .load (some 12) (.t 4), none, []⟩,
 ⟨2, some 33, .faddr 0 (.t 11), none, []⟩,
 ⟨3, some 34, .load (some 3) (.t 33), none, []⟩,
 ⟨4, some 35, .mv (.t 1), none, []⟩,
 ⟨5, some 36, .mv (.t 13), none, []⟩,
 ⟨6, some 37, .mv (.t 2), none, []⟩,
 ⟨7, some 38, .mv (.t 3), none, []⟩,
 ⟨8, some 39, .call true (.f 188) [.t 32, .t 34, .t 35, .t 36, .t 37, .t 38], none, []⟩,
 ⟨9, some 40, .bslice 1 1 [.int .i64 0] [(0, .t 39)], none, []⟩,
 ⟨10, some 41, .append 1 (.tk 31) (.t 40), none, []⟩,
 ⟨11, some 9, .mv (.tk 41), none, []⟩] false [1, 2, 3, 4, 8, 9, 11, 15, 16, 17, 25, 26, 27])))
 (.region 0 [
 ⟨0, some 42, .bin .add (.t 27) (.k (.sc (.int .i64 1))), none, []⟩,
 ⟨1, some 27, .mv (.t 42), none, []⟩] false [1, 2, 3, 4, 8, 9, 11, 15, 16, 17, 25, 26, 27]))))
def a6L : AC := .loop [1, 2, 3, 4, 8, 9, 11, 15, 16, 17, 25, 26, 27] a1E
def a1D : AC :=
 (.seq (.region 0 [
 ⟨0, some 18, .bin .lss (.t 17) (.t 16), none, []⟩] false [1, 2, 3, 4, 8, 9, 15, 16, 17, 18])
 (.seq (.cond (.t 18)
 (.skip)
 (.exit 0))
 (.seq (.block 1 (.seq (.region 1 [
 ⟨0, some 19, .iaddr 4 (.t 15) (.t 17), none, []⟩,
 ⟨1, some 20, .load (some 4) (.t 19), none, []⟩,
 ⟨2, some 11, .alloc 0 [.int .i64 0, .int .i64 0, .int .i64 0, .sl .nil 1 []], none, []⟩,
 ⟨3, none, .store 4 (.t 11) (.t 20), none, []⟩] false [1, 2, 3, 4, 8, 9, 11, 15, 16, 17])
 (.seq (.region 0 [
 ⟨0, some 21, .faddr 3 (.t 11), none, []⟩,
 ⟨1, some 22, .load none (.t 21), none, []⟩,
 ⟨2, some 23, .mv (.t 1), none, []⟩,
 ⟨3, some 24, .iaddr 1 (.t 22) (.t 23), none, []⟩,
 ⟨4, some 25, .load none (.t 24), none, []⟩,
 ⟨5, some 26, .len 1 (.t 25), none, []⟩,
 ⟨6, some 27, .mv (.k (.sc (.int .i64 0))), none, []⟩] false [1, 2, 3, 4, 8, 9, 11, 15, 16, 17, 25, 26, 27])
 (.block 2 (a6L)))))
 (.region 0 [
 ⟨0, some 43, .bin .add (.t 17) (.k (.sc (.int .i64 1))), none, []⟩,
 ⟨1, some 17, .mv (.t 43), none, []⟩] false [1, 2, 3, 4, 8, 9, 15, 16, 17]))))
def a6K : AC := .loop [1, 2, 3, 4, 8, 9, 15, 16, 17] a1D
def a4H : Fn := ⟨4, 52, [(8, some (some 2))],
 (.seq (.region 2 [
 ⟨0, some 4, .box 0 (.t 0), none, []⟩,
 ⟨1, some 8, .alloc 1 [.int .i64 0, .int .i64 0], none, []⟩] false [1, 2, 3, 4, 8])
 (.seq (.region 0 [
 ⟨0, some 9, .mv (.k (.sc (.sl .nil 1 []))), none, []⟩] false [1, 2, 3, 4, 8, 9])
 (.seq (.seq (.region 0 [
 ⟨0, some 14, .faddr 11 (.t 4), none, []⟩,
 ⟨1, some 15, .load none (.t 14), none, []⟩,
 ⟨2, some 16, .len 1 (.t 15), none, []⟩,
 ⟨3, some 17, .mv (.k (.sc (.int .i64 0))), none, []⟩] false [1, 2, 3, 4, 8, 9, 15, 16, 17])
 (.block 0 (a6K)))
 (.seq (.region 0 [
 ⟨0, some 44, .mv (.t 9), none, []⟩,
 ⟨1, some 45, .iaddr 1 (.t 44) (.k (.sc (.int .i64 0))), none, []⟩,
 ⟨2, some 46, .load none (.t 45), none, []⟩,
 ⟨3, some 47, .mv (.t 9), none, []⟩,
 ⟨4, some 48, .call true (.f 169) [.t 46, .t 47], none, []⟩,
 ⟨5, some 49, .mv (.t 9), none, []⟩,
 ⟨6, some 50, .call true (.f 189) [.t 49], none, []⟩,
 ⟨7, some 51, .build [.int .i64 0, .int .i64 0] [(0, 1, .t 48), (1, 1, .t 50)], none, []⟩,
 ⟨8, none, .store 2 (.t 8) (.t 51), none, []⟩] false [8])
 (.ret))))), false⟩
def a3U : Fn := ⟨4, 16, [(8, none)],
 (.seq (.region 1 [
 ⟨0, some 4, .box 0 (.t 0), none, []⟩,
 ⟨1, some 8, .mv (.k (.sc (.bool false))), none, []⟩] false [1, 2, 3, 4])
 (.seq (.region 0 [
 ⟨0, some 9, .load (some 12) (.t 4), none, []⟩,
 ⟨1, some 10, .mv (.t 1), none, []⟩,
 ⟨2, some 11, .mv (.t 2), none, []⟩,
 ⟨3, some 12, .mv (.t 3), none, []⟩,
 ⟨4, some 13, .call true (.f 167) [.t 9, .t 10, .t 11, .t 12], none, []⟩,
 ⟨5, some 14, .field 0 none (.t 13), none, []⟩,
 ⟨6, some 15, .bin .lss (.t 14) (.k (.sc (.int .i64 0))), none, []⟩,
 ⟨7, some 8, .mv (.t 15), none, []⟩] false [8])
 (.ret))), false⟩
def a0x : AC :=
 (.seq (.region 0 [
 ⟨0, some 10, .bin .lss (.t 9) (.t 8), none, []⟩] false [1, 2, 7, 8, 9, 10])
 (.seq (.cond (.t 10)
 (.skip)
 (.exit 0))
 (.seq (.block 1 (.seq (.region 1 [
 ⟨0, some 11, .mv (.t 9), none, []⟩,
 ⟨1, some 12, .iaddr 2 (.t 7) (.t 9), none, []⟩,
 ⟨2, some 13, .load (some 2) (.t 12), none, []⟩,
 ⟨3, some 6, .alloc 0 [.int .i64 0, .int .i64 0], none, []⟩,
 ⟨4, some 5, .mv (.t 11), none, []⟩,
 ⟨5, none, .store 2 (.t 6) (.t 13), none, []⟩] false [1, 2, 5, 6, 7, 8, 9])
 (.seq (.region 0 [
 ⟨0, some 14, .load (some 10) (.t 2), none, []⟩,
 ⟨1, some 15, .faddr 0 (.t 6), none, []⟩,
 ⟨2, some 16, .load none (.t 15), none, []⟩,
 ⟨3, some 17, .call true (.f 152) [.t 14, .t 16], none, []⟩,
 ⟨4, some 18, .un .not (.t 17), none, []⟩,
 ⟨5, some 19, .mv (.t 18), none, []⟩,
 ⟨6, some 20, .faddr 0 (.t 6), some (19, false), []⟩,
 ⟨7, some 21, .load none (.t 20), some (19, false), []⟩,
 ⟨8, some 22, .load (some 10) (.t 2), some (19, false), []⟩,
 ⟨9, some 23, .call true (.f 112) [.t 22], some (19, false), []⟩,
 ⟨10, some 24, .bin .lss (.t 21) (.t 23), some (19, false), []⟩,
 ⟨11, some 25, .pick (.t 19) (.k (.sc (.bool true))) (.t 24), none, []⟩,
 ⟨12, some 26, .mv (.t 25), none, []⟩,
 ⟨13, some 27, .load (some 10) (.t 2), some (26, false), []⟩,
 ⟨14, some 28, .faddr 1 (.t 6), some (26, false), []⟩,
 ⟨15, some 29, .load none (.t 28), some (26, false), []⟩,
 ⟨16, some 30, .call true (.f 153) [.t 27, .t 29], some (26, false), []⟩,
 ⟨17, some 31, .un .not (.t 30), some (26, false), []⟩,
 ⟨18, some 32, .pick (.t 26) (.k (.sc (.bool true))) (.t 31), none, []⟩,
 ⟨19, some 33, .mv (.t 32), none, []⟩,
 ⟨20, some 34, .faddr 8 (.t 2), some (33, false), []⟩,
 ⟨21, some 35, .load none (.t 34), some (33, false), []⟩,
 ⟨22, some 36, .load (some 2) (.t 6), some (33, false), []⟩,
 ⟨23, some 37, .call true (.f 155) [.t 35, .t 36], some (33, false), []⟩,
 ⟨24, some 38, .pick (.t 33) (.k (.sc (.bool true))) (.t 37), none, []⟩,
 ⟨25, some 39, .mv (.t 38), none, []⟩,
 ⟨26, some 40, .mv (.t 5), some (39, false), []⟩,
 ⟨27, some 41, .bin .gtr (.t 40) (.k (.sc (.int .i64 0))), some (39, false), []⟩,
 ⟨28, some 42, .mv (.t 41), some (39, false), []⟩,
 ⟨29, some 43, .mv (.t 1), some (42, true), []⟩,
 ⟨30, some 44, .mv (.t 5), some (42, true), []⟩,
 ⟨31, some 45, .bin .sub (.t 44) (.k (.sc (.int .i64 1))), some (42, true), []⟩,
 ⟨32, some 46, .iaddr 2 (.t 43) (.t 45), some (42, true), []⟩,
 ⟨33, some 47, .load (some 2) (.t 46), some (42, true), []⟩,
 ⟨34, some 48, .load (some 2) (.t 6), some (42, true), []⟩,
 ⟨35, some 49, .call true (.f 131) [.t 47, .t 48], some (42, true), []⟩,
 ⟨36, some 50, .bin .geq (.t 49) (.k (.sc (.int .i64 0))), some (42, true), []⟩,
 ⟨37, some 51, .pick (.t 42) (.t 50) (.k (.sc (.bool false))), some (39, false), []⟩,
 ⟨38, some 52, .pick (.t 39) (.k (.sc (.bool true))) (.t 51), none, []⟩] true [1, 2, 7, 8, 9, 52])
 (.cond (.t 52)
 (.seq (.region 0 [
 ⟨0, some 4, .mv (.k (.sc (.bool false))), none, []⟩] false [4])
 (.ret))
 (.skip)))))
 (.region 0 [
 ⟨0, some 53, .bin .add (.t 9) (.k (.sc (.int .i64 1))), none, []⟩,
 ⟨1, some 9, .mv (.t 53), none, []⟩] false [1, 2, 7, 8, 9]))))
def b1m : AC := .loop [1, 2, 7, 8, 9] a0x
def a5M : Fn := ⟨2, 54, [(4, none)],
 (.seq (.region 1 [
 ⟨0, some 2, .box 0 (.t 0), none, []⟩,
 ⟨1, some 4, .mv (.k (.sc (.bool false))), none, []⟩] false [1, 2])
 (.seq (.seq (.region 0 [
 ⟨0, some 7, .mv (.t 1), none, []⟩,
 ⟨1, some 8, .len 1 (.t 7), none, []⟩,
 ⟨2, some 9, .mv (.k (.sc (.int .i64 0))), none, []⟩] false [1, 2, 7, 8, 9])
 (.block 0 (b1m)))
 (.seq (.region 0 [
 ⟨0, some 4, .mv (.k (.sc (.bool true))), none, []⟩] false [4])
 (.ret)))), false⟩
def a1s : AC :=
 (.seq (.region 0 [
 ⟨0, some 22, .bin .lss (.t 21) (.t 20), none, []⟩] false [5, 19, 20, 21, 22])
 (.seq (.cond (.t 22)
 (.skip)
 (.exit 2))
 (.seq (.block 3 (.seq (.region 1 [
 ⟨0, some 23, .iaddr 2 (.t 19) (.t 21), none, []⟩,
 ⟨1, some 24, .load (some 2) (.t 23), none, []⟩,
 ⟨2, some 8, .alloc 0 [.int .i64 0, .int .i64 0], none, []⟩,
 ⟨3, none, .store 2 (.t 8) (.t 24), none, []⟩] false [5, 8, 19, 20, 21])
 (.seq (.region 1 [
 ⟨0, some 25, .faddr 0 (.t 8), none, []⟩,
 ⟨1, some 26, .load none (.t 25), none, []⟩,
 ⟨2, some 27, .faddr 1 (.t 8), none, []⟩,
 ⟨3, some 28, .load none (.t 27), none, []⟩,
 ⟨4, some 29, .build [.int .i64 0, .int .i64 0] [(0, 1, .t 26), (1, 1, .t 28)], none, []⟩,
 ⟨5, some 9, .alloc 0 [.int .i64 0, .int .i64 0], none, []⟩,
 ⟨6, none, .store 2 (.t 9) (.t 29), none, []⟩] false [5, 9, 19, 20, 21])
 (.seq (.region 0 [
 ⟨0, some 30, .load (some 2) (.t 9), none, []⟩,
 ⟨1, some 31, .load (some 2) (.g 3), none, []⟩,
 ⟨2, some 32, .eqf true ⟨true, [1, 1]⟩ (.t 30) (.t 31), none, []⟩] false [5, 9, 19, 20, 21, 32])
 (.cond (.t 32)
 (.region 0 [
 ⟨0, some 33, .mv (.t 5), none, []⟩,
 ⟨1, some 34, .load (some 2) (.t 9), none, []⟩,
 ⟨2, none, .sadd 2 (.t 33) (.t 34), none, []⟩] false [5, 19, 20, 21])
 (.skip))))))
 (.region 0 [
 ⟨0, some 35, .bin .add (.t 21) (.k (.sc (.int .i64 1))), none, []⟩,
 ⟨1, some 21, .mv (.t 35), none, []⟩] false [5, 19, 20, 21]))))
def a6H : AC := .loop [5, 19, 20, 21] a1s
def a4h : Fn := ⟨2, 37, [(4, none)],
 (.seq (.region 0 [
 ⟨0, some 4, .mv (.k (.sc (.imap true false []))), none, []⟩] false [0, 1])
 (.seq (.region 1 [
 ⟨0, some 10, .mkset 0 2, none, []⟩,
 ⟨1, some 5, .mv (.t 10), none, []⟩] false [0, 1, 5])
 (.seq (.seq (.region 1 [
 ⟨0, some 11, .mv (.t 0), none, []⟩,
 ⟨1, some 12, .rng 0 (.t 11), none, []⟩] false [1, 5, 12])
 (.union [1, 5] 12 5 2))
 (.seq (.seq (.region 0 [
 ⟨0, some 19, .mv (.t 1), none, []⟩,
 ⟨1, some 20, .len 1 (.t 19), none, []⟩,
 ⟨2, some 21, .mv (.k (.sc (.int .i64 0))), none, []⟩] false [5, 19, 20, 21])
 (.block 2 (a6H)))
 (.seq (.region 0 [
 ⟨0, some 36, .mv (.t 5), none, []⟩,
 ⟨1, some 4, .mv (.t 36), none, []⟩] false [4])
 (.ret)))))), false⟩
def a3E : AC :=
 (.seq (.seq (.region 0 [
 ⟨0, some 11, .mv (.t 7), none, []⟩,
 ⟨1, some 12, .faddr 0 (.t 3), none, []⟩,
 ⟨2, some 13, .faddr 7 (.t 12), none, []⟩,
 ⟨3, some 14, .load none (.t 13), none, []⟩,
 ⟨4, some 15, .len 1 (.t 14), none, []⟩,
 ⟨5, some 16, .bin .lss (.t 11) (.t 15), none, []⟩] false [1, 2, 3, 7, 16])
 (.cond (.t 16)
 (.skip)
 (.exit 0)))
 (.seq (.block 1 (.seq (.region 0 [
 ⟨0, some 19, .load (some 12) (.t 3), none, []⟩,
 ⟨1, some 20, .mv (.t 1), none, []⟩,
 ⟨2, some 21, .mv (.t 7), none, []⟩,
 ⟨3, some 22, .mv (.t 2), none, []⟩,
 ⟨4, some 23, .call true (.f 113) [.t 19, .t 20, .t 21, .t 22], none, []⟩] false [1, 2, 3, 7, 23])
 (.cond (.t 23)
 (.seq (.region 0 [
 ⟨0, some 6, .mv (.k (.sc (.bool false))), none, []⟩] false [6])
 (.ret))
 (.skip))))
 (.region 0 [
 ⟨0, some 17, .mv (.t 7), none, []⟩,
 ⟨1, some 18, .bin .add (.t 17) (.k (.sc (.int .i64 1))), none, []⟩,
 ⟨2, some 7, .mv (.t 18), none, []⟩] false [1, 2, 3, 7])))
def a9K : AC := .loop [1, 2, 3, 7] a3E
def a4I : Fn := ⟨3, 24, [(6, none)],
 (.seq (.region 1 [
 ⟨0, some 3, .box 0 (.t 0), none, []⟩,
 ⟨1, some 6, .mv (.k (.sc (.bool false))), none, []⟩] false [1, 2, 3])
 (.seq (.seq (.region 0 [
 ⟨0, some 8, .faddr 0 (.t 3), none, []⟩,
 ⟨1, some 9, .load (some 10) (.t 8), none, []⟩,
 ⟨2, some 10, .call true (.f 112) [.t 9], none, []⟩,
 ⟨3, some 7, .mv (.t 10), none, []⟩] false [1, 2, 3, 7])
 (.block 0 (a9K)))
 (.seq (.region 0 [
 ⟨0, some 6, .mv (.k (.sc (.bool true))), none, []⟩] false [6])
 (.ret)))), false⟩
def a3g : AC :=
 (.seq (.region 0 [
 ⟨0, some 24, .bin .lss (.t 23) (.t 22), none, []⟩] false [1, 2, 5, 6, 22, 23, 24])
 (.seq (.cond (.t 24)
 (.skip)
 (.exit 2))
 (.seq (.block 3 (.seq (.region 0 [
 ⟨0, some 25, .mv (.t 23), none, []⟩,
 ⟨1, some 7, .mv (.t 25), none, []⟩] false [1, 2, 5, 6, 7, 22, 23])
 (.seq (.region 0 [
 ⟨0, some 26, .mv (.t 1), none, []⟩,
 ⟨1, some 27, .mv (.t 5), none, []⟩,
 ⟨2, some 28, .mv (.t 7), none, []⟩,
 ⟨3, some 29, .build [.int .i64 0, .int .i64 0] [(0, 1, .t 27), (1, 1, .t 28)], none, []⟩,
 ⟨4, some 30, .slook 2 (.t 26) (.t 29), none, []⟩,
 ⟨5, some 31, .un .not (.t 30), none, []⟩] false [1, 2, 5, 6, 22, 23, 31])
 (.cond (.t 31)
 (.region 0 [
 ⟨0, some 32, .mv (.t 6), none, []⟩,
 ⟨1, some 33, .bin .add (.t 32) (.k (.sc (.int .i64 1))), none, []⟩,
 ⟨2, some 6, .mv (.t 33), none, []⟩] false [1, 2, 5, 6, 22, 23])
 (.skip)))))
 (.region 0 [
 ⟨0, some 34, .bin .add (.t 23) (.k (.sc (.int .i64 1))), none, []⟩,
 ⟨1, some 23, .mv (.t 34), none, []⟩] false [1, 2, 5, 6, 22, 23]))))
def a6e : AC := .loop [1, 2, 5, 6, 22, 23] a3g
def a1k : AC :=
 (.seq (.seq (.region 0 [
 ⟨0, some 11, .mv (.t 5), none, []⟩,
 ⟨1, some 12, .faddr 0 (.t 2), none, []⟩,
 ⟨2, some 13, .faddr 7 (.t 12), none, []⟩,
 ⟨3, some 14, .load none (.t 13), none, []⟩,
 ⟨4, some 15, .len 1 (.t 14), none, []⟩,
 ⟨5, some 16, .bin .lss (.t 11) (.t 15), none, []⟩] false [1, 2, 5, 16])
 (.cond (.t 16)
 (.skip)
 (.exit 0)))
 (.seq (.block 1 (.seq (.region 0 [
 ⟨0, some 6, .mv (.k (.sc (.int .i64 0))), none, []⟩] false [1, 2, 5, 6])
 (.seq (.seq (.region 0 [
 ⟨0, some 19, .faddr 0 (.t 2), none, []⟩,
 ⟨1, some 20, .faddr 0 (.t 19), none, []⟩,
 ⟨2, some 21, .load none (.t 20), none, []⟩,
 ⟨3, some 22, .len 1 (.t 21), none, []⟩,
 ⟨4, some 23, .mv (.k (.sc (.int .i64 0))), none, []⟩] false [1, 2, 5, 6, 22, 23])
 (.block 2 (a6e)))
 (.seq (.region 0 [
 ⟨0, some 35, .mv (.t 6), none, []⟩,
 ⟨1, some 36, .faddr 0 (.t 2), none, []⟩,
 ⟨2, some 37, .faddr 7 (.t 36), none, []⟩,
 ⟨3, some 38, .load none (.t 37), none, []⟩,
 ⟨4, some 39, .mv (.t 5), none, []⟩,
 ⟨5, some 40, .iaddr 3 (.t 38) (.t 39), none, []⟩,
 ⟨6, some 41, .faddr 2 (.t 40), none, []⟩,
 ⟨7, some 42, .load none (.t 41), none, []⟩,
 ⟨8, some 43, .bin .lss (.t 35) (.t 42), none, []⟩] false [1, 2, 5, 43])
 (.cond (.t 43)
 (.seq (.region 0 [
 ⟨0, some 4, .mv (.k (.sc (.bool false))), none, []⟩] false [4])
 (.ret))
 (.skip))))))
 (.region 0 [
 ⟨0, some 17, .mv (.t 5), none, []⟩,
 ⟨1, some 18, .bin .add (.t 17) (.k (.sc (.int .i64 1))), none, []⟩,
 ⟨2, some 5, .mv (.t 18), none, []⟩] false [1, 2, 5])))
def a9c : AC := .loop [1, 2, 5] a1k
def a2j : Fn := ⟨2, 44, [(4, none)],
 (.seq (.region 1 [
 ⟨0, some 2, .box 0 (.t 0), none, []⟩,
 ⟨1, some 4, .mv (.k (.sc (.bool false))), none, []⟩] false [1, 2])
 (.seq (.seq (.region 0 [
 ⟨0, some 8, .faddr 0 (.t 2), none, []⟩,
 ⟨1, some 9, .load (some 10) (.t 8), none, []⟩,
 ⟨2, some 10, .call true (.f 112) [.t 9], none, []⟩,
 ⟨3, some 5, .mv (.t 10), none, []⟩] false [1, 2, 5])
 (.block 0 (a9c)))
 (.seq (.region 0 [
 ⟨0, some 4, .mv (.k (.sc (.bool true))), none, []⟩] false [4])
 (.ret)))), false⟩
def a5Q : Fn := ⟨3, 15, [(6, none)],
 (.seq (.region 0 [
 ⟨0, some 6, .mv (.k (.sc (.bool false))), none, []⟩] false [0, 1, 2])
 (.seq (.region 0 [
 ⟨0, some 7, .mv (.t 1), none, []⟩,
 ⟨1, some 8, .mv (.t 0), none, []⟩,
 ⟨2, some 9, .bin .leq (.t 7) (.t 8), none, []⟩,
 ⟨3, some 10, .mv (.t 9), none, []⟩,
 ⟨4, some 11, .mv (.t 0), some (10, true), []⟩,
 ⟨5, some 12, .mv (.t 2), some (10, true), []⟩,
 ⟨6, some 13, .bin .leq (.t 11) (.t 12), some (10, true), []⟩,
 ⟨7, some 14, .pick (.t 10) (.t 13) (.k (.sc (.bool false))), none, []⟩,
 ⟨8, some 6, .mv (.t 14), none, []⟩] false [6])
 (.ret))), false⟩
def a5O : Fn := ⟨3, 32, [(6, none)],
 (.seq (.region 1 [
 ⟨0, some 3, .box 0 (.t 0), none, []⟩,
 ⟨1, some 6, .mv (.k (.sc (.bool false))), none, []⟩] false [1, 2, 3])
 (.seq (.region 0 [
 ⟨0, some 7, .faddr 0 (.t 3), none, []⟩,
 ⟨1, some 8, .load none (.t 7), none, []⟩,
 ⟨2, some 9, .bin .leq (.k (.sc (.int .i64 0))) (.t 8), none, []⟩,
 ⟨3, some 10, .mv (.t 9), none, []⟩,
 ⟨4, some 11, .faddr 0 (.t 3), some (10, true), []⟩,
 ⟨5, some 12, .load none (.t 11), some (10, true), []⟩,
 ⟨6, some 13, .faddr 1 (.t 3), some (10, true), []⟩,
 ⟨7, some 14, .load none (.t 13), some (10, true), []⟩,
 ⟨8, some 15, .bin .leq (.t 12) (.t 14), some (10, true), []⟩,
 ⟨9, some 16, .pick (.t 10) (.t 15) (.k (.sc (.bool false))), none, []⟩,
 ⟨10, some 17, .mv (.t 16), none, []⟩,
 ⟨11, some 18, .faddr 1 (.t 3), some (17, true), []⟩,
 ⟨12, some 19, .load none (.t 18), some (17, true), []⟩,
 ⟨13, some 20, .mv (.t 1), some (17, true), []⟩,
 ⟨14, some 21, .bin .leq (.t 19) (.t 20), some (17, true), []⟩,
 ⟨15, some 22, .pick (.t 17) (.t 21) (.k (.sc (.bool false))), none, []⟩,
 ⟨16, some 23, .mv (.t 22), none, []⟩,
 ⟨17, some 24, .faddr 1 (.t 3), some (23, true), []⟩,
 ⟨18, some 25, .load none (.t 24), some (23, true), []⟩,
 ⟨19, some 26, .faddr 0 (.t 3), some (23, true), []⟩,
 ⟨20, some 27, .load none (.t 26), some (23, true), []⟩,
 ⟨21, some 28, .bin .sub (.t 25) (.t 27), some (23, true), []⟩,
 ⟨22, some 29, .mv (.t 2), some (23, true), []⟩,
 ⟨23, some 30, .bin .leq (.t 28) (.t 29), some (23, true), []⟩,
 ⟨24, some 31, .pick (.t 23) (.t 30) (.k (.sc (.bool false))), none, []⟩,
 ⟨25, some 6, .mv (.t 31), none, []⟩] false [6])
 (.ret))), false⟩
def a2q : AC :=
 (.seq (.region 0 [
 ⟨0, some 10, .bin .lss (.t 9) (.t 8), none, []⟩] false [0, 7, 8, 9, 10])
 (.seq (.cond (.t 10)
 (.skip)
 (.exit 0))
 (.seq (.block 1 (.seq (.region 0 [
 ⟨0, some 11, .iaddr 1 (.t 7) (.t 9), none, []⟩,
 ⟨1, some 12, .load none (.t 11), none, []⟩,
 ⟨2, some 6, .mv (.t 12), none, []⟩] false [0, 6, 7, 8, 9])
 (.region 0 [
 ⟨0, some 13, .mv (.t 0), none, []⟩,
 ⟨1, some 14, .mv (.t 6), none, []⟩,
 ⟨2, some 15, .min (.t 13) [.t 14], none, []⟩,
 ⟨3, some 0, .mv (.t 15), none, []⟩] false [0, 7, 8, 9])))
 (.region 0 [
 ⟨0, some 16, .bin .add (.t 9) (.k (.sc (.int .i64 1))), none, []⟩,
 ⟨1, some 9, .mv (.t 16), none, []⟩] false [0, 7, 8, 9]))))
def a6M : AC := .loop [0, 7, 8, 9] a2q
def a4J : Fn := ⟨2, 18, [(4, none)],
 (.seq (.region 0 [
 ⟨0, some 4, .mv (.k (.sc (.int .i64 0))), none, []⟩] false [0, 1])
 (.seq (.seq (.region 0 [
 ⟨0, some 7, .mv (.t 1), none, []⟩,
 ⟨1, some 8, .len 1 (.t 7), none, []⟩,
 ⟨2, some 9, .mv (.k (.sc (.int .i64 0))), none, []⟩] false [0, 7, 8, 9])
 (.block 0 (a6M)))
 (.seq (.region 0 [
 ⟨0, some 17, .mv (.t 0), none, []⟩,
 ⟨1, some 4, .mv (.t 17), none, []⟩] false [4])
 (.ret)))), false⟩
def a3s : AC :=
 (.seq (.seq (.region 0 [
 ⟨0, some 15, .mv (.t 6), none, []⟩,
 ⟨1, some 16, .faddr 0 (.t 2), none, []⟩,
 ⟨2, some 17, .faddr 7 (.t 16), none, []⟩,
 ⟨3, some 18, .load none (.t 17), none, []⟩,
 ⟨4, some 19, .len 1 (.t 18), none, []⟩,
 ⟨5, some 20, .bin .lss (.t 15) (.t 19), none, []⟩] false [1, 2, 5, 6, 20])
 (.cond (.t 20)
 (.skip)
 (.exit 0)))
 (.seq (.block 1 (.seq (.region 0 [
 ⟨0, some 23, .faddr 10 (.t 2), none, []⟩,
 ⟨1, some 24, .load none (.t 23), none, []⟩,
 ⟨2, some 25, .mv (.t 6), none, []⟩,
 ⟨3, some 26, .mv (.t 1), none, []⟩,
 ⟨4, some 27, .build [.int .i64 0, .int .i64 0] [(0, 1, .t 25), (1, 1, .t 26)], none, []⟩,
 ⟨5, some 28, .slook 2 (.t 24) (.t 27), none, []⟩,
 ⟨6, some 29, .un .not (.t 28), none, []⟩] false [1, 2, 5, 6, 29])
 (.cond (.t 29)
 (.region 0 [
 ⟨0, some 30, .mv (.tk 5), none, []⟩,
 ⟨1, some 31, .mv (.t 6), none, []⟩,
 ⟨2, some 32, .mv (.t 1), none, []⟩,
 ⟨3, some 33, .build [.int .i64 0, .int .i64 0] [(0, 1, .t 31), (1, 1, .t 32)], none, []⟩,
 ⟨4, some 34, .bslice 2 1 [.int .i64 0, .int .i64 0] [(0, .t 33)], none, []⟩,
 ⟨5, some 35, .append 2 (.tk 30) (.t 34), none, []⟩,
 ⟨6, some 5, .mv (.tk 35), none, []⟩] false [1, 2, 5, 6])
 (.skip))))
 (.region 0 [
 ⟨0, some 21, .mv (.t 6), none, []⟩,
 ⟨1, some 22, .bin .add (.t 21) (.k (.sc (.int .i64 1))), none, []⟩,
 ⟨2, some 6, .mv (.t 22), none, []⟩] false [1, 2, 5, 6])))
def a6C : AC := .loop [1, 2, 5, 6] a3s
def a0T : AC :=
 (.seq (.region 0 [
 ⟨0, some 45, .bin .lss (.t 44) (.t 43), none, []⟩] false [1, 2, 5, 7, 8, 9, 38, 39, 42, 43, 44, 45])
 (.seq (.cond (.t 45)
 (.skip)
 (.exit 4))
 (.seq (.block 5 (.seq (.region 1 [
 ⟨0, some 46, .mv (.t 44), none, []⟩,
 ⟨1, some 47, .iaddr 2 (.t 42) (.t 44), none, []⟩,
 ⟨2, some 48, .load (some 2) (.t 47), none, []⟩,
 ⟨3, some 11, .alloc 0 [.int .i64 0, .int .i64 0], none, []⟩,
 ⟨4, some 10, .mv (.t 46), none, []⟩,
 ⟨5, none, .store 2 (.t 11) (.t 48), none, []⟩] false [1, 2, 5, 7, 8, 9, 10, 11, 38, 39, 42, 43, 44])
 (.seq (.region 0 [
 ⟨0, some 49, .mv (.t 8), none, []⟩,
 ⟨1, some 50, .mv (.t 10), none, []⟩,
 ⟨2, some 51, .bin .shr (.t 49) (.t 50), none, []⟩,
 ⟨3, some 52, .bin .and (.t 51) (.k (.sc (.int .i64 1))), none, []⟩,
 ⟨4, some 53, .bin .eql (.t 52) (.k (.sc (.int .i64 1))), none, []⟩] false [1, 2, 5, 7, 8, 9, 11, 38, 39, 42, 43, 44, 53])
 (.cond (.t 53)
 (.region 0 [
 ⟨0, some 54, .mv (.tk 9), none, []⟩,
 ⟨1, some 55, .load (some 2) (.t 11), none, []⟩,
 ⟨2, some 56, .bslice 2 1 [.int .i64 0, .int .i64 0] [(0, .t 55)], none, []⟩,
 ⟨3, some 57, .append 2 (.tk 54) (.t 56), none, []⟩,
 ⟨4, some 9, .mv (.tk 57), none, []⟩] false [1, 2, 5, 7, 8, 9, 38, 39, 42, 43, 44])
 (.skip)))))
 (.region 0 [
 ⟨0, some 58, .bin .add (.t 44) (.k (.sc (.int .i64 1))), none, []⟩,
 ⟨1, some 44, .mv (.t 58), none, []⟩] false [1, 2, 5, 7, 8, 9, 38, 39, 42, 43, 44]))))
def a6E : AC := .loop [1, 2, 5, 7, 8, 9, 38, 39, 42, 43, 44] a0T
def a3t : AC :=
 (.seq (.region 0 [
 ⟨0, some 40, .bin .lss (.t 39) (.t 38), none, []⟩] false [1, 2, 5, 7, 38, 39, 40])
 (.seq (.cond (.t 40)
 (.skip)
 (.exit 2))
 (.seq (.block 3 (.seq (.region 0 [
 ⟨0, some 41, .mv (.t 39), none, []⟩,
 ⟨1, some 8, .mv (.t 41), none, []⟩] false [1, 2, 5, 7, 8, 38, 39])
 (.seq (.region 0 [
 ⟨0, some 9, .mv (.k (.sc (.sl .nil 2 []))), none, []⟩] false [1, 2, 5, 7, 8, 9, 38, 39])
 (.seq (.seq (.region 0 [
 ⟨0, some 42, .mv (.t 5), none, []⟩,
 ⟨1, some 43, .len 1 (.t 42), none, []⟩,
 ⟨2, some 44, .mv (.k (.sc (.int .i64 0))), none, []⟩] false [1, 2, 5, 7, 8, 9, 38, 39, 42, 43, 44])
 (.block 4 (a6E)))
 (.seq (.region 0 [
 ⟨0, some 59, .load (some 12) (.t 2), none, []⟩,
 ⟨1, some 60, .mv (.t 1), none, []⟩,
 ⟨2, some 61, .faddr 10 (.t 2), none, []⟩,
 ⟨3, some 62, .load none (.t 61), none, []⟩,
 ⟨4, some 63, .mv (.t 9), none, []⟩,
 ⟨5, some 64, .call true (.f 121) [.t 62, .t 63], none, []⟩,
 ⟨6, some 65, .call true (.f 122) [.t 59, .t 60, .t 64], none, []⟩] true [1, 2, 5, 7, 9, 38, 39, 65])
 (.cond (.t 65)
 (.region 0 [
 ⟨0, some 66, .mv (.tk 7), none, []⟩,
 ⟨1, some 67, .mv (.t 9), none, []⟩,
 ⟨2, some 68, .bslice 1 1 [.sl .nil 2 []] [(0, .t 67)], none, []⟩,
 ⟨3, some 69, .append 1 (.tk 66) (.t 68), none, []⟩,
 ⟨4, some 7, .mv (.tk 69), none, []⟩] false [1, 2, 5, 7, 38, 39])
 (.skip)))))))
 (.region 0 [
 ⟨0, some 70, .bin .add (.t 39) (.k (.sc (.int .i64 1))), none, []⟩,
 ⟨1, some 39, .mv (.t 70), none, []⟩] false [1, 2, 5, 7, 38, 39]))))
def a6D : AC := .loop [1, 2, 5, 7, 38, 39] a3t
def a4f : Fn := ⟨2, 72, [(4, none)],
 (.seq (.region 1 [
 ⟨0, some 2, .box 0 (.t 0), none, []⟩,
 ⟨1, some 4, .mv (.k (.sc (.sl .nil 1 []))), none, []⟩] false [1, 2])
 (.seq (.region 0 [
 ⟨0, some 5, .mv (.k (.sc (.sl .nil 2 []))), none, []⟩] false [1, 2, 5])
 (.seq (.seq (.region 0 [
 ⟨0, some 12, .faddr 0 (.t 2), none, []⟩,
 ⟨1, some 13, .load (some 10) (.t 12), none, []⟩,
 ⟨2, some 14, .call true (.f 112) [.t 13], none, []⟩,
 ⟨3, some 6, .mv (.t 14), none, []⟩] false [1, 2, 5, 6])
 (.block 0 (a6C)))
 (.seq (.region 0 [
 ⟨0, some 7, .mv (.k (.sc (.sl .nil 1 []))), none, []⟩] false [1, 2, 5, 7])
 (.seq (.seq (.region 0 [
 ⟨0, some 36, .mv (.t 5), none, []⟩,
 ⟨1, some 37, .len 1 (.t 36), none, []⟩,
 ⟨2, some 38, .bin .shl (.k (.sc (.int .i64 1))) (.t 37), none, []⟩,
 ⟨3, some 39, .mv (.k (.sc (.int .i64 0))), none, []⟩] false [1, 2, 5, 7, 38, 39])
 (.block 2 (a6D)))
 (.seq (.region 0 [
 ⟨0, some 71, .mv (.t 7), none, []⟩,
 ⟨1, some 4, .mv (.t 71), none, []⟩] false [4])
 (.ret))))))), false⟩
def a5L : Fn := ⟨0, 2, [(0, some (some 1))],
 (.seq (.region 1 [
 ⟨0, some 0, .alloc 0 [.nilf], none, []⟩] false [0])
 (.seq (.region 0 [
 ⟨0, some 1, .build [.nilf] [(0, 1, .f 160)], none, []⟩,
 ⟨1, none, .store 1 (.t 0) (.t 1), none, []⟩] false [0])
 (.ret))), false⟩
def a0X : Fn := ⟨2, 14, [],
 (.seq (.region 0 [
 ⟨0, some 5, .mv (.t 0), none, []⟩,
 ⟨1, some 6, .len 1 (.t 5), none, []⟩,
 ⟨2, some 4, .mv (.t 6), none, []⟩] false [0, 1, 4])
 (.region 0 [
 ⟨0, some 7, .mv (.t 0), none, []⟩,
 ⟨1, some 8, .mv (.t 4), none, []⟩,
 ⟨2, some 9, .mv (.t 4), none, []⟩,
 ⟨3, some 10, .conv .u64 (.t 9), none, []⟩,
 ⟨4, some 11, .call true (.f 161) [.t 10], none, []⟩,
 ⟨5, some 12, .mv (.t 1), none, []⟩,
 ⟨6, some 13, .call false (.f 162) [.t 7, .k (.sc (.int .i64 0)), .t 8, .t 11, .t 12], none, []⟩] false [])), false⟩
def a5u : Fn := ⟨2, 17, [(4, none)],
 (.seq (.region 2 [
 ⟨0, some 2, .box 0 (.t 0), none, []⟩,
 ⟨1, some 3, .box 1 (.t 1), none, []⟩,
 ⟨2, some 4, .mv (.k (.sc (.int .i64 0))), none, []⟩] false [2, 3])
 (.seq (.region 0 [
 ⟨0, some 5, .faddr 0 (.t 2), none, []⟩,
 ⟨1, some 6, .load none (.t 5), none, []⟩,
 ⟨2, some 7, .faddr 0 (.t 3), none, []⟩,
 ⟨3, some 8, .load none (.t 7), none, []⟩,
 ⟨4, some 9, .call true (.f 163) [.t 6, .t 8], none, []⟩,
 ⟨5, some 10, .faddr 1 (.t 2), none, []⟩,
 ⟨6, some 11, .load none (.t 10), none, []⟩,
 ⟨7, some 12, .faddr 1 (.t 3), none, []⟩,
 ⟨8, some 13, .load none (.t 12), none, []⟩,
 ⟨9, some 14, .call true (.f 163) [.t 11, .t 13], none, []⟩,
 ⟨10, some 15, .bslice 1 2 [.int .i64 0] [(0, .t 9), (1, .t 14)], none, []⟩,
 ⟨11, some 16, .call true (.f 164) [.t 15], none, []⟩,
 ⟨12, some 4, .mv (.t 16), none, []⟩] true [4])
 (.ret))), false⟩
def a1r : AC :=
 (.seq (.region 0 [
 ⟨0, some 18, .bin .lss (.t 17) (.t 16), none, []⟩] false [2, 3, 4, 5, 6, 15, 16, 17, 18])
 (.seq (.cond (.t 18)
 (.skip)
 (.exit 0))
 (.seq (.block 1 (.seq (.region 1 [
 ⟨0, some 19, .mv (.t 17), none, []⟩,
 ⟨1, some 20, .iaddr 4 (.t 15) (.t 17), none, []⟩,
 ⟨2, some 21, .load (some 4) (.t 20), none, []⟩,
 ⟨3, some 12, .alloc 0 [.int .i64 0, .int .i64 0, .int .i64 0, .int .i64 0], none, []⟩,
 ⟨4, some 11, .mv (.t 19), none, []⟩,
 ⟨5, none, .store 4 (.t 12) (.t 21), none, []⟩] false [2, 3, 4, 5, 6, 11, 12, 15, 16, 17])
 (.seq (.region 0 [
 ⟨0, some 22, .faddr 0 (.t 12), none, []⟩,
 ⟨1, some 23, .load none (.t 22), none, []⟩,
 ⟨2, some 24, .mv (.t 2), none, []⟩,
 ⟨3, some 25, .bin .eql (.t 23) (.t 24), none, []⟩,
 ⟨4, some 26, .mv (.t 25), none, []⟩,
 ⟨5, some 27, .mv (.t 4), some (26, true), []⟩,
 ⟨6, some 28, .mv (.t 11), some (26, true), []⟩,
 ⟨7, some 29, .call true (.f 76) [.t 27, .t 28], some (26, true), []⟩,
 ⟨8, some 30, .un .not (.t 29), some (26, true), []⟩,
 ⟨9, some 31, .pick (.t 26) (.t 30) (.k (.sc (.bool false))), none, []⟩,
 ⟨10, some 32, .mv (.t 31), none, []⟩,
 ⟨11, some 33, .faddr 2 (.t 12), some (32, true), []⟩,
 ⟨12, some 34, .load none (.t 33), some (32, true), []⟩,
 ⟨13, some 35, .load (some 12) (.t 5), some (32, true), []⟩,
 ⟨14, some 36, .load (some 3) (.t 6), some (32, true), []⟩,
 ⟨15, some 37, .mv (.t 2), some (32, true), []⟩,
 ⟨16, some 38, .mv (.t 3), some (32, true), []⟩,
 ⟨17, some 39, .faddr 1 (.t 12), some (32, true), []⟩,
 ⟨18, some 40, .load none (.t 39), some (32, true), []⟩,
 ⟨19, some 41, .faddr 10 (.t 5), some (32, true), []⟩,
 ⟨20, some 42, .load none (.t 41), some (32, true), []⟩,
 ⟨21, some 43, .call true (.f 188) [.t 35, .t 36, .t 37, .t 38, .t 40, .t 42], some (32, true), []⟩,
 ⟨22, some 44, .bin .sub (.t 34) (.t 43), some (32, true), []⟩,
 ⟨23, some 45, .faddr 3 (.t 12), some (32, true), []⟩,
 ⟨24, some 46, .load none (.t 45), some (32, true), []⟩,
 ⟨25, some 47, .un .neg (.t 46), some (32, true), []⟩,
 ⟨26, some 48, .faddr 3 (.t 12), some (32, true), []⟩,
 ⟨27, some 49, .load none (.t 48), some (32, true), []⟩,
 ⟨28, some 50, .call true (.f 150) [.t 44, .t 47, .t 49], some (32, true), []⟩,
 ⟨29, some 51, .un .not (.t 50), some (32, true), []⟩,
 ⟨30, some 52, .pick (.t 32) (.t 51) (.k (.sc (.bool false))), none, []⟩] true [2, 3, 4, 5, 6, 15, 16, 17, 52])
 (.cond (.t 52)
 (.seq (.region 0 [
 ⟨0, some 10, .mv (.k (.sc (.bool false))), none, []⟩] false [10])
 (.ret))
 (.skip)))))
 (.region 0 [
 ⟨0, some 53, .bin .add (.t 17) (.k (.sc (.int .i64 1))), none, []⟩,
 ⟨1, some 17, .mv (.t 53), none, []⟩] false [2, 3, 4, 5, 6, 15, 16, 17]))))
def a6F : AC := .loop [2, 3, 4, 5, 6, 15, 16, 17] a1r
def a3m : Fn := ⟨5, 54, [(10, none)],
 (.seq (.region 2 [
 ⟨0, some 5, .box 0 (.t 0), none, []⟩,
 ⟨1, some 6, .box 1 (.t 1), none, []⟩,
 ⟨2, some 10, .mv (.k (.sc (.bool false))), none, []⟩] false [2, 3, 4, 5, 6])
 (.seq (.seq (.region 0 [
 ⟨0, some 13, .faddr 0 (.t 5), none, []⟩,
 ⟨1, some 14, .faddr 9 (.t 13), none, []⟩,
 ⟨2, some 15, .load none (.t 14), none, []⟩,
 ⟨3, some 16, .len 1 (.t 15), none, []⟩,
 ⟨4, some 17, .mv (.k (.sc (.int .i64 0))), none, []⟩] false [2, 3, 4, 5, 6, 15, 16, 17])
 (.block 0 (a6F)))
 (.seq (.region 0 [
 ⟨0, some 10, .mv (.k (.sc (.bool true))), none, []⟩] false [10])
 (.ret)))), false⟩
def a3W : Fn := ⟨1, 4, [(2, none)],
 (.seq (.region 1 [
 ⟨0, some 1, .box 0 (.t 0), none, []⟩,
 ⟨1, some 2, .mv (.k (.sc .nilf)), none, []⟩] false [1])
 (.frz 1 (.seq (.region 0 [
 ⟨0, some 3, .mkf 190 [] [] [.t 1], none, []⟩,
 ⟨1, some 2, .mv (.t 3), none, []⟩] false [2])
 (.ret)))), false⟩
def a0J : AC :=
 (.seq (.seq (.region 0 [
 ⟨0, some 12, .mv (.t 9), none, []⟩,
 ⟨1, some 13, .mv (.t 2), none, []⟩,
 ⟨2, some 14, .bin .leq (.t 12) (.t 13), none, []⟩] false [1, 2, 3, 4, 9, 14])
 (.cond (.t 14)
 (.skip)
 (.exit 0)))
 (.seq (.block 1 (.seq (.region 0 [
 ⟨0, some 17, .mv (.t 9), none, []⟩,
 ⟨1, some 18, .bin .lss (.t 17) (.k (.sc (.int .i64 0))), none, []⟩,
 ⟨2, some 19, .mv (.t 18), none, []⟩,
 ⟨3, some 20, .faddr 0 (.t 4), some (19, false), []⟩,
 ⟨4, some 21, .faddr 7 (.t 20), some (19, false), []⟩,
 ⟨5, some 22, .load none (.t 21), some (19, false), []⟩,
 ⟨6, some 23, .mv (.t 9), some (19, false), []⟩,
 ⟨7, some 24, .iaddr 3 (.t 22) (.t 23), some (19, false), []⟩,
 ⟨8, some 25, .faddr 1 (.t 24), some (19, false), []⟩,
 ⟨9, some 26, .load none (.t 25), some (19, false), []⟩,
 ⟨10, some 27, .bin .eql (.t 26) (.k (.sc (.int .i64 0))), some (19, false), []⟩,
 ⟨11, some 28, .pick (.t 19) (.k (.sc (.bool true))) (.t 27), none, []⟩,
 ⟨12, some 29, .mv (.t 28), none, []⟩,
 ⟨13, some 30, .mv (.t 3), some (29, false), []⟩,
 ⟨14, some 31, .mv (.t 9), some (29, false), []⟩,
 ⟨15, some 32, .mv (.t 1), some (29, false), []⟩,
 ⟨16, some 33, .build [.int .i64 0, .int .i64 0] [(0, 1, .t 31), (1, 1, .t 32)], some (29, false), []⟩,
 ⟨17, some 34, .slook 2 (.t 30) (.t 33), some (29, false), []⟩,
 ⟨18, some 35, .pick (.t 29) (.k (.sc (.bool true))) (.t 34), none, []⟩] false [1, 2, 3, 4, 9, 35])
 (.cond (.t 35)
 (.seq (.region 0 [
 ⟨0, some 8, .mv (.k (.sc (.bool false))), none, []⟩] false [8])
 (.ret))
 (.skip))))
 (.region 0 [
 ⟨0, some 15, .mv (.t 9), none, []⟩,
 ⟨1, some 16, .bin .add (.t 15) (.k (.sc (.int .i64 1))), none, []⟩,
 ⟨2, some 9, .mv (.t 16), none, []⟩] false [1, 2, 3, 4, 9])))
def a0K : AC := .loop [1, 2, 3, 4, 9] a0J
def a0N : Fn := ⟨4, 36, [(8, none)],
 (.seq (.region 1 [
 ⟨0, some 4, .box 0 (.t 0), none, []⟩,
 ⟨1, some 8, .mv (.k (.sc (.bool false))), none, []⟩] false [1, 2, 3, 4])
 (.seq (.seq (.region 0 [
 ⟨0, some 10, .mv (.t 2), none, []⟩,
 ⟨1, some 11, .bin .sub (.t 10) (.k (.sc (.int .i64 2))), none, []⟩,
 ⟨2, some 9, .mv (.t 11), none, []⟩] false [1, 2, 3, 4, 9])
 (.block 0 (a0K)))
 (.seq (.region 0 [
 ⟨0, some 8, .mv (.k (.sc (.bool true))), none, []⟩] false [8])
 (.ret)))), false⟩
def a0Z : AC :=
 (.seq (.region 0 [
 ⟨0, some 22, .bin .lss (.t 21) (.t 20), none, []⟩] false [2, 3, 5, 6, 7, 13, 14, 20, 21, 22])
 (.seq (.cond (.t 22)
 (.skip)
 (.exit 0))
 (.seq (.block 1 (.seq (.region 0 [
 ⟨0, some 23, .mv (.t 21), none, []⟩,
 ⟨1, some 15, .mv (.t 23), none, []⟩] false [2, 3, 5, 6, 7, 13, 15, 20, 21])
 (.seq (.region 0 [
 ⟨0, some 16, .mv (.k (.sc (.int .i64 1))), none, []⟩] false [2, 3, 5, 6, 7, 13, 15, 16, 20, 21])
 (.seq (.seq (.region 0 [
 ⟨0, some 24, .mv (.t 5), none, []⟩,
 ⟨1, some 25, .mv (.t 15), none, []⟩,
 ⟨2, some 26, .mv (.t 2), none, []⟩,
 ⟨3, some 27, .build [.int .i64 0, .int .i64 0] [(0, 1, .t 25), (1, 1, .t 26)], none, []⟩,
 ⟨4, some 28, .slook 2 (.t 24) (.t 27), none, []⟩] false [2, 3, 5, 6, 7, 13, 15, 16, 20, 21, 28])
 (.cond (.t 28)
 (.region 0 [
 ⟨0, some 16, .mv (.k (.sc (.int .i64 0))), none, []⟩] false [2, 3, 5, 6, 7, 13, 15, 16, 20, 21])
 (.skip)))
 (.seq (.region 0 [
 ⟨0, some 29, .mv (.t 16), none, []⟩,
 ⟨1, some 30, .iarr 2 1 (.g 4) (.t 29), none, []⟩,
 ⟨2, some 31, .load none (.t 30), none, []⟩,
 ⟨3, some 32, .load (some 3) (.t 7), none, []⟩,
 ⟨4, some 33, .mv (.t 13), none, []⟩,
 ⟨5, some 34, .faddr 0 (.t 6), none, []⟩,
 ⟨6, some 35, .faddr 7 (.t 34), none, []⟩,
 ⟨7, some 36, .load none (.t 35), none, []⟩,
 ⟨8, some 37, .mv (.t 15), none, []⟩,
 ⟨9, some 38, .iaddr 3 (.t 36) (.t 37), none, []⟩,
 ⟨10, some 39, .load (some 3) (.t 38), none, []⟩,
 ⟨11, some 40, .call true (.t 31) [.t 32, .t 33, .t 39], none, []⟩,
 ⟨12, some 14, .mv (.t 40), none, []⟩] true [2, 3, 5, 6, 7, 14, 20, 21])
 (.region 0 [
 ⟨0, some 41, .mv (.t 3), none, []⟩,
 ⟨1, some 42, .mv (.t 14), none, []⟩,
 ⟨2, some 43, .iarr 3 1 (.t 7) (.k (.sc (.int .i64 2))), none, []⟩,
 ⟨3, some 44, .load none (.t 43), none, []⟩,
 ⟨4, some 45, .bin .add (.t 42) (.t 44), none, []⟩,
 ⟨5, some 46, .bslice 1 1 [.int .i64 0] [(0, .t 45)], none, []⟩,
 ⟨6, some 47, .call true (.f 169) [.t 41, .t 46], none, []⟩,
 ⟨7, some 13, .mv (.t 47), none, []⟩] false [2, 3, 5, 6, 7, 13, 14, 20, 21]))))))
 (.region 0 [
 ⟨0, some 48, .bin .add (.t 21) (.k (.sc (.int .i64 1))), none, []⟩,
 ⟨1, some 21, .mv (.t 48), none, []⟩] false [2, 3, 5, 6, 7, 13, 14, 20, 21]))))
def a6J : AC := .loop [2, 3, 5, 6, 7, 13, 14, 20, 21] a0Z
def a4G : Fn := ⟨6, 50, [(12, none)],
 (.seq (.region 2 [
 ⟨0, some 6, .box 0 (.t 0), none, []⟩,
 ⟨1, some 7, .box 1 (.t 1), none, []⟩,
 ⟨2, some 12, .mv (.k (.sc (.int .i64 0))), none, []⟩] false [2, 3, 4, 5, 6, 7])
 (.seq (.region 0 [
 ⟨0, some 17, .mv (.t 3), none, []⟩,
 ⟨1, some 18, .mv (.t 3), none, []⟩,
 ⟨2, some 13, .mv (.t 17), none, []⟩,
 ⟨3, some 14, .mv (.t 18), none, []⟩] false [2, 3, 4, 5, 6, 7, 13, 14])
 (.seq (.seq (.region 0 [
 ⟨0, some 19, .mv (.t 4), none, []⟩,
 ⟨1, some 20, .bin .add (.t 19) (.k (.sc (.int .i64 1))), none, []⟩,
 ⟨2, some 21, .mv (.k (.sc (.int .i64 0))), none, []⟩] false [2, 3, 5, 6, 7, 13, 14, 20, 21])
 (.block 0 (a6J)))
 (.seq (.region 0 [
 ⟨0, some 49, .mv (.t 14), none, []⟩,
 ⟨1, some 12, .mv (.t 49), none, []⟩] false [12])
 (.ret))))), false⟩
def a2f : AC :=
 (.seq (.seq (.region 0 [
 ⟨0, some 12, .mv (.t 4), none, []⟩,
 ⟨1, some 13, .mv (.t 0), none, []⟩,
 ⟨2, some 14, .len 1 (.t 13), none, []⟩,
 ⟨3, some 15, .bin .lss (.t 12) (.t 14), none, []⟩] false [0, 3, 4, 15])
 (.cond (.t 15)
 (.skip)
 (.exit 0)))
 (.seq (.block 1 (.region 0 [
 ⟨0, some 18, .mv (.t 3), none, []⟩,
 ⟨1, some 19, .mv (.t 0), none, []⟩,
 ⟨2, some 20, .mv (.t 4), none, []⟩,
 ⟨3, some 21, .iaddr 1 (.t 19) (.t 20), none, []⟩,
 ⟨4, some 22, .load none (.t 21), none, []⟩,
 ⟨5, some 23, .max (.t 18) [.t 22], none, []⟩,
 ⟨6, some 3, .mv (.t 23), none, []⟩] false [0, 3, 4]))
 (.region 0 [
 ⟨0, some 16, .mv (.t 4), none, []⟩,
 ⟨1, some 17, .bin .add (.t 16) (.k (.sc (.int .i64 1))), none, []⟩,
 ⟨2, some 4, .mv (.t 17), none, []⟩] false [0, 3, 4])))
def a6d : AC := .loop [0, 3, 4] a2f
def a3S : Fn := ⟨1, 25, [(2, none)],
 (.seq (.region 0 [
 ⟨0, some 2, .mv (.k (.sc (.int .i64 0))), none, []⟩] false [0])
 (.seq (.seq (.region 0 [
 ⟨0, some 5, .mv (.t 0), none, []⟩,
 ⟨1, some 6, .len 1 (.t 5), none, []⟩,
 ⟨2, some 7, .bin .lss (.t 6) (.k (.sc (.int .i64 1))), none, []⟩] false [0, 7])
 (.cond (.t 7)
 (.stuck)
 (.skip)))
 (.seq (.region 0 [
 ⟨0, some 9, .mv (.t 0), none, []⟩,
 ⟨1, some 10, .iaddr 1 (.t 9) (.k (.sc (.int .i64 0))), none, []⟩,
 ⟨2, some 11, .load none (.t 10), none, []⟩,
 ⟨3, some 3, .mv (.t 11), none, []⟩] false [0, 3])
 (.seq (.seq (.region 0 [
 ⟨0, some 4, .mv (.k (.sc (.int .i64 1))), none, []⟩] false [0, 3, 4])
 (.block 0 (a6d)))
 (.seq (.region 0 [
 ⟨0, some 24, .mv (.t 3), none, []⟩,
 ⟨1, some 2, .mv (.t 24), none, []⟩] false [2])
 (.ret)))))), false⟩
def a1m : Fn := ⟨2, 9, [(4, none)],
 (.seq (.region 1 [
 ⟨0, some 3, .box 0 (.t 1), none, []⟩,
 ⟨1, some 4, .mv (.k (.sc (.bool false))), none, []⟩] false [0, 3])
 (.seq (.region 0 [
 ⟨0, some 5, .mv (.t 0), none, []⟩,
 ⟨1, some 6, .load (some 2) (.t 3), none, []⟩,
 ⟨2, some 7, .call true (.f 175) [.t 5, .t 6], none, []⟩,
 ⟨3, some 8, .bin .geq (.t 7) (.k (.sc (.int .i64 0))), none, []⟩,
 ⟨4, some 4, .mv (.t 8), none, []⟩] false [4])
 (.ret))), false⟩
def a5a : Fn := ⟨2, 16, [(4, none)],
 (.seq (.region 0 [
 ⟨0, some 4, .mv (.k (.sc (.bool false))), none, []⟩] false [0, 1])
 (.seq (.region 0 [
 ⟨0, some 5, .mv (.t 0), none, []⟩,
 ⟨1, some 6, .len 1 (.t 5), none, []⟩,
 ⟨2, some 7, .mv (.t 1), none, []⟩,
 ⟨3, some 8, .len 1 (.t 7), none, []⟩,
 ⟨4, some 9, .call true (.f 163) [.t 6, .t 8], none, []⟩,
 ⟨5, some 10, .mv (.t 0), none, []⟩,
 ⟨6, some 11, .mv (.t 1), none, []⟩,
 ⟨7, some 12, .call true (.f 176) [.t 10, .t 11, .f 131], none, []⟩,
 ⟨8, some 13, .bslice 1 2 [.int .i64 0] [(0, .t 9), (1, .t 12)], none, []⟩,
 ⟨9, some 14, .call true (.f 164) [.t 13], none, []⟩,
 ⟨10, some 15, .bin .lss (.t 14) (.k (.sc (.int .i64 0))), none, []⟩,
 ⟨11, some 4, .mv (.t 15), none, []⟩] false [4])
 (.ret))), false⟩
def a5H : AC :=
 (.seq (.region 0 [
 ⟨0, some 9, .bin .lss (.t 8) (.t 7), none, []⟩] false [3, 6, 7, 8, 9])
 (.seq (.cond (.t 9)
 (.skip)
 (.exit 0))
 (.seq (.block 1 (.seq (.region 0 [
 ⟨0, some 10, .iaddr 1 (.t 6) (.t 8), none, []⟩,
 ⟨1, some 11, .load none (.t 10), none, []⟩,
 ⟨2, some 5, .mv (.t 11), none, []⟩] false [3, 5, 6, 7, 8])
 (.seq (.region 0 [
 ⟨0, some 12, .mv (.t 5), none, []⟩,
 ⟨1, some 13, .mv (.t 3), none, []⟩,
 ⟨2, some 14, .bin .neq (.t 12) (.t 13), none, []⟩] false [3, 5, 6, 7, 8, 14])
 (.cond (.t 14)
 (.seq (.region 0 [
 ⟨0, some 15, .mv (.t 5), none, []⟩,
 ⟨1, some 2, .mv (.t 15), none, []⟩] false [2])
 (.ret))
 (.skip)))))
 (.region 0 [
 ⟨0, some 16, .bin .add (.t 8) (.k (.sc (.int .i64 1))), none, []⟩,
 ⟨1, some 8, .mv (.t 16), none, []⟩] false [3, 6, 7, 8]))))
def a5I : AC := .loop [3, 6, 7, 8] a5H
def a5n : Fn := ⟨1, 18, [(2, none)],
 (.seq (.region 0 [
 ⟨0, some 2, .mv (.k (.sc (.int .i64 0))), none, []⟩] false [0])
 (.seq (.region 0 [
 ⟨0, some 3, .mv (.k (.sc (.int .i64 0))), none, []⟩] false [0, 3])
 (.seq (.seq (.region 0 [
 ⟨0, some 6, .mv (.t 0), none, []⟩,
 ⟨1, some 7, .len 1 (.t 6), none, []⟩,
 ⟨2, some 8, .mv (.k (.sc (.int .i64 0))), none, []⟩] false [3, 6, 7, 8])
 (.block 0 (a5I)))
 (.seq (.region 0 [
 ⟨0, some 17, .mv (.t 3), none, []⟩,
 ⟨1, some 2, .mv (.t 17), none, []⟩] false [2])
 (.ret))))), false⟩
def cmp_Compare_int : Fn := ⟨2, 20, [(4, none)],
 (.seq (.region 0 [
 ⟨0, some 4, .mv (.k (.sc (.int .i64 0))), none, []⟩] false [0, 1])
 (.seq (.region 0 [
 ⟨0, some 7, .mv (.t 0), none, []⟩,
 ⟨1, some 8, .call true (.f 177) [.t 7], none, []⟩,
 ⟨2, some 5, .mv (.t 8), none, []⟩] false [0, 1, 5])
 (.seq (.region 0 [
 ⟨0, some 9, .mv (.t 1), none, []⟩,
 ⟨1, some 10, .call true (.f 177) [.t 9], none, []⟩,
 ⟨2, some 6, .mv (.t 10), none, []⟩] false [0, 1, 5, 6])
 (.seq (.seq (.region 0 [
 ⟨0, some 11, .mv (.t 5), none, []⟩] false [0, 1, 6, 11])
 (.cond (.t 11)
 (.seq (.seq (.region 0 [
 ⟨0, some 12, .mv (.t 6), none, []⟩] false [12])
 (.cond (.t 12)
 (.seq (.region 0 [
 ⟨0, some 4, .mv (.k (.sc (.int .i64 0))), none, []⟩] false [4])
 (.ret))
 (.skip)))
 (.seq (.region 0 [
 ⟨0, some 4, .mv (.k (.sc (.int .i64 (-1)))), none, []⟩] false [4])
 (.ret)))
 (.skip)))
 (.seq (.seq (.region 0 [
 ⟨0, some 13, .mv (.t 6), none, []⟩] false [0, 1, 13])
 (.cond (.t 13)
 (.seq (.region 0 [
 ⟨0, some 4, .mv (.k (.sc (.int .i64 1))), none, []⟩] false [4])
 (.ret))
 (.skip)))
 (.seq (.seq (.region 0 [
 ⟨0, some 14, .mv (.t 0), none, []⟩,
 ⟨1, some 15, .mv (.t 1), none, []⟩,
 ⟨2, some 16, .bin .lss (.t 14) (.t 15), none, []⟩] false [0, 1, 16])
 (.cond (.t 16)
 (.seq (.region 0 [
 ⟨0, some 4, .mv (.k (.sc (.int .i64 (-1)))), none, []⟩] false [4])
 (.ret))
 (.skip)))
 (.seq (.seq (.region 0 [
 ⟨0, some 17, .mv (.t 0), none, []⟩,
 ⟨1, some 18, .mv (.t 1), none, []⟩,
 ⟨2, some 19, .bin .gtr (.t 17) (.t 18), none, []⟩] false [19])
 (.cond (.t 19)
 (.seq (.region 0 [
 ⟨0, some 4, .mv (.k (.sc (.int .i64 1))), none, []⟩] false [4])
 (.ret))
 (.skip)))
 (.seq (.region 0 [
 ⟨0, some 4, .mv (.k (.sc (.int .i64 0))), none, []⟩] false [4])
 (.ret))))))))), false⟩
def a0i : AC :=
 (.seq (.region 0 [
 ⟨0, some 14, .bin .lss (.t 13) (.t 12), none, []⟩] false [0, 1, 2, 11, 12, 13, 14])
 (.seq (.cond (.t 14)
 (.skip)
 (.exit 0))
 (.seq (.block 1 (.seq (.region 1 [
 ⟨0, some 15, .mv (.t 13), none, []⟩,
 ⟨1, some 16, .iaddr 2 (.t 11) (.t 13), none, []⟩,
 ⟨2, some 17, .load (some 2) (.t 16), none, []⟩,
 ⟨3, some 8, .alloc 0 [.int .i64 0, .int .i64 0], none, []⟩,
 ⟨4, some 7, .mv (.t 15), none, []⟩,
 ⟨5, none, .store 2 (.t 8) (.t 17), none, []⟩] false [0, 1, 2, 7, 8, 11, 12, 13])
 (.seq (.seq (.region 0 [
 ⟨0, some 18, .mv (.t 7), none, []⟩,
 ⟨1, some 19, .mv (.t 1), none, []⟩,
 ⟨2, some 20, .len 1 (.t 19), none, []⟩,
 ⟨3, some 21, .bin .geq (.t 18) (.t 20), none, []⟩] false [0, 1, 2, 7, 8, 11, 12, 13, 21])
 (.cond (.t 21)
 (.seq (.region 0 [
 ⟨0, some 6, .mv (.k (.sc (.int .i64 1))), none, []⟩] false [6])
 (.ret))
 (.skip)))
 (.seq (.region 1 [
 ⟨0, some 22, .mv (.t 1), none, []⟩,
 ⟨1, some 23, .mv (.t 7), none, []⟩,
 ⟨2, some 24, .iaddr 2 (.t 22) (.t 23), none, []⟩,
 ⟨3, some 25, .load (some 2) (.t 24), none, []⟩,
 ⟨4, some 9, .alloc 0 [.int .i64 0, .int .i64 0], none, []⟩,
 ⟨5, none, .store 2 (.t 9) (.t 25), none, []⟩] false [0, 1, 2, 8, 9, 11, 12, 13])
 (.seq (.region 0 [
 ⟨0, some 26, .mv (.t 2), none, []⟩,
 ⟨1, some 27, .load (some 2) (.t 8), none, []⟩,
 ⟨2, some 28, .load (some 2) (.t 9), none, []⟩,
 ⟨3, some 29, .call true (.t 26) [.t 27, .t 28], none, []⟩,
 ⟨4, some 10, .mv (.t 29), none, []⟩] false [0, 1, 2, 10, 11, 12, 13])
 (.seq (.region 0 [
 ⟨0, some 30, .mv (.t 10), none, []⟩,
 ⟨1, some 31, .bin .neq (.t 30) (.k (.sc (.int .i64 0))), none, []⟩] false [0, 1, 2, 10, 11, 12, 13, 31])
 (.cond (.t 31)
 (.seq (.region 0 [
 ⟨0, some 32, .mv (.t 10), none, []⟩,
 ⟨1, some 6, .mv (.t 32), none, []⟩] false [6])
 (.ret))
 (.skip))))))))
 (.region 0 [
 ⟨0, some 33, .bin .add (.t 13) (.k (.sc (.int .i64 1))), none, []⟩,
 ⟨1, some 13, .mv (.t 33), none, []⟩] false [0, 1, 2, 11, 12, 13]))))
def a1V : AC := .loop [0, 1, 2, 11, 12, 13] a0i
def a0D : Fn := ⟨3, 39, [(6, none)],
 (.seq (.region 0 [
 ⟨0, some 6, .mv (.k (.sc (.int .i64 0))), none, []⟩] false [0, 1, 2])
 (.seq (.seq (.region 0 [
 ⟨0, some 11, .mv (.t 0), none, []⟩,
 ⟨1, some 12, .len 1 (.t 11), none, []⟩,
 ⟨2, some 13, .mv (.k (.sc (.int .i64 0))), none, []⟩] false [0, 1, 2, 11, 12, 13])
 (.block 0 (a1V)))
 (.seq (.seq (.region 0 [
 ⟨0, some 34, .mv (.t 0), none, []⟩,
 ⟨1, some 35, .len 1 (.t 34), none, []⟩,
 ⟨2, some 36, .mv (.t 1), none, []⟩,
 ⟨3, some 37, .len 1 (.t 36), none, []⟩,
 ⟨4, some 38, .bin .lss (.t 35) (.t 37), none, []⟩] false [38])
 (.cond (.t 38)
 (.seq (.region 0 [
 ⟨0, some 6, .mv (.k (.sc (.int .i64 (-1)))), none, []⟩] false [6])
 (.ret))
 (.skip)))
 (.seq (.region 0 [
 ⟨0, some 6, .mv (.k (.sc (.int .i64 0))), none, []⟩] false [6])
 (.ret))))), false⟩
def a1X : AC :=
 (.block 1 (.seq (.region 0 [
 ⟨0, some 21, .mv (.t 2), none, []⟩,
 ⟨1, some 22, .mv (.t 1), none, []⟩,
 ⟨2, some 23, .bin .sub (.t 21) (.t 22), none, []⟩,
 ⟨3, some 12, .mv (.t 23), none, []⟩] false [0, 1, 2, 3, 4, 10, 11, 12])
 (.seq (.seq (.region 0 [
 ⟨0, some 24, .mv (.t 12), none, []⟩,
 ⟨1, some 25, .bin .leq (.t 24) (.k (.sc (.int .i64 12))), none, []⟩] false [0, 1, 2, 3, 4, 10, 11, 12, 25])
 (.cond (.t 25)
 (.seq (.region 0 [
 ⟨0, some 26, .mv (.t 0), none, []⟩,
 ⟨1, some 27, .mv (.t 1), none, []⟩,
 ⟨2, some 28, .mv (.t 2), none, []⟩,
 ⟨3, some 29, .mv (.t 4), none, []⟩,
 ⟨4, some 30, .call false (.f 178) [.t 26, .t 27, .t 28, .t 29], none, []⟩] false [])
 (.ret))
 (.skip)))
 (.seq (.seq (.region 0 [
 ⟨0, some 31, .mv (.t 3), none, []⟩,
 ⟨1, some 32, .bin .eql (.t 31) (.k (.sc (.int .i64 0))), none, []⟩] false [0, 1, 2, 3, 4, 10, 11, 12, 32])
 (.cond (.t 32)
 (.seq (.region 0 [
 ⟨0, some 33, .mv (.t 0), none, []⟩,
 ⟨1, some 34, .mv (.t 1), none, []⟩,
 ⟨2, some 35, .mv (.t 2), none, []⟩,
 ⟨3, some 36, .mv (.t 4), none, []⟩,
 ⟨4, some 37, .call false (.f 179) [.t 33, .t 34, .t 35, .t 36], none, []⟩] false [])
 (.ret))
 (.skip)))
 (.seq (.seq (.region 0 [
 ⟨0, some 38, .mv (.t 10), none, []⟩,
 ⟨1, some 39, .un .not (.t 38), none, []⟩] false [0, 1, 2, 3, 4, 10, 11, 12, 39])
 (.cond (.t 39)
 (.seq (.region 0 [
 ⟨0, some 40, .mv (.t 0), none, []⟩,
 ⟨1, some 41, .mv (.t 1), none, []⟩,
 ⟨2, some 42, .mv (.t 2), none, []⟩,
 ⟨3, some 43, .mv (.t 4), none, []⟩,
 ⟨4, some 44, .call false (.f 180) [.t 40, .t 41, .t 42, .t 43], none, []⟩] false [0, 1, 2, 3, 4, 10, 11, 12])
 (.region 0 [
 ⟨0, some 45, .mv (.t 3), none, []⟩,
 ⟨1, some 46, .bin .sub (.t 45) (.k (.sc (.int .i64 1))), none, []⟩,
 ⟨2, some 3, .mv (.t 46), none, []⟩] false [0, 1, 2, 3, 4, 10, 11, 12]))
 (.skip)))
 (.seq (.region 0 [
 ⟨0, some 48, .mv (.t 0), none, []⟩,
 ⟨1, some 49, .mv (.t 1), none, []⟩,
 ⟨2, some 50, .mv (.t 2), none, []⟩,
 ⟨3, some 51, .mv (.t 4), none, []⟩,
 ⟨4, some 52, .call false (.f 181) [.t 48, .t 49, .t 50, .t 51], none, []⟩,
 ⟨5, some 47, .mv (.t 52), none, []⟩,
 ⟨6, some 53, .ext (.t 47) 0, none, []⟩,
 ⟨7, some 54, .ext (.t 47) 1, none, []⟩,
 ⟨8, some 13, .mv (.t 53), none, []⟩,
 ⟨9, some 14, .mv (.t 54), none, []⟩] false [0, 1, 2, 3, 4, 10, 11, 12, 13, 14])
 (.seq (.seq (.region 0 [
 ⟨0, some 55, .mv (.t 14), none, []⟩,
 ⟨1, some 56, .bin .eql (.t 55) (.k (.sc (.int .i64 2))), none, []⟩] false [0, 1, 2, 3, 4, 10, 11, 12, 13, 14, 56])
 (.cond (.t 56)
 (.seq (.region 0 [
 ⟨0, some 57, .mv (.t 0), none, []⟩,
 ⟨1, some 58, .mv (.t 1), none, []⟩,
 ⟨2, some 59, .mv (.t 2), none, []⟩,
 ⟨3, some 60, .mv (.t 4), none, []⟩,
 ⟨4, some 61, .call false (.f 182) [.t 57, .t 58, .t 59, .t 60], none, []⟩] false [0, 1, 2, 3, 4, 10, 11, 12, 13])
 (.seq (.region 0 [
 ⟨0, some 62, .mv (.t 2), none, []⟩,
 ⟨1, some 63, .bin .sub (.t 62) (.k (.sc (.int .i64 1))), none, []⟩,
 ⟨2, some 64, .mv (.t 13), none, []⟩,
 ⟨3, some 65, .mv (.t 1), none, []⟩,
 ⟨4, some 66, .bin .sub (.t 64) (.t 65), none, []⟩,
 ⟨5, some 67, .bin .sub (.t 63) (.t 66), none, []⟩,
 ⟨6, some 13, .mv (.t 67), none, []⟩] false [0, 1, 2, 3, 4, 10, 11, 12, 13])
 (.region 0 [
 ⟨0, some 14, .mv (.k (.sc (.int .i64 1))), none, []⟩] false [0, 1, 2, 3, 4, 10, 11, 12, 13, 14])))
 (.skip)))
 (.seq (.seq (.region 0 [
 ⟨0, some 68, .mv (.t 10), none, []⟩,
 ⟨1, some 69, .mv (.t 68), none, []⟩,
 ⟨2, some 70, .mv (.t 11), some (69, true), []⟩,
 ⟨3, some 71, .pick (.t 69) (.t 70) (.k (.sc (.bool false))), none, []⟩,
 ⟨4, some 72, .mv (.t 71), none, []⟩,
 ⟨5, some 73, .mv (.t 14), some (72, true), []⟩,
 ⟨6, some 74, .bin .eql (.t 73) (.k (.sc (.int .i64 1))), some (72, true), []⟩,
 ⟨7, some 75, .pick (.t 72) (.t 74) (.k (.sc (.bool false))), none, []⟩] false [0, 1, 2, 3, 4, 10, 11, 12, 13, 75])
 (.cond (.t 75)
 (.seq (.region 0 [
 ⟨0, some 76, .mv (.t 0), none, []⟩,
 ⟨1, some 77, .mv (.t 1), none, []⟩,
 ⟨2, some 78, .mv (.t 2), none, []⟩,
 ⟨3, some 79, .mv (.t 4), none, []⟩,
 ⟨4, some 80, .call false (.f 183) [.t 76, .t 77, .t 78, .t 79], none, []⟩] false [0, 1, 2, 3, 4, 10, 11, 12, 13, 80])
 (.cond (.t 80)
 (.ret)
 (.skip)))
 (.skip)))
 (.seq (.seq (.region 0 [
 ⟨0, some 81, .mv (.t 1), none, []⟩,
 ⟨1, some 82, .bin .gtr (.t 81) (.k (.sc (.int .i64 0))), none, []⟩,
 ⟨2, some 83, .mv (.t 82), none, []⟩,
 ⟨3, some 84, .mv (.t 4), some (83, true), []⟩,
 ⟨4, some 85, .mv (.t 0), some (83, true), []⟩,
 ⟨5, some 86, .mv (.t 1), some (83, true), []⟩,
 ⟨6, some 87, .bin .sub (.t 86) (.k (.sc (.int .i64 1))), some (83, true), []⟩,
 ⟨7, some 88, .iaddr 2 (.t 85) (.t 87), some (83, true), []⟩,
 ⟨8, some 89, .load (some 2) (.t 88), some (83, true), []⟩,
 ⟨9, some 90, .mv (.t 0), some (83, true), []⟩,
 ⟨10, some 91, .mv (.t 13), some (83, true), []⟩,
 ⟨11, some 92, .iaddr 2 (.t 90) (.t 91), some (83, true), []⟩,
 ⟨12, some 93, .load (some 2) (.t 92), some (83, true), []⟩,
 ⟨13, some 94, .call true (.t 84) [.t 89, .t 93], some (83, true), []⟩,
 ⟨14, some 95, .bin .lss (.t 94) (.k (.sc (.int .i64 0))), some (83, true), []⟩,
 ⟨15, some 96, .un .not (.t 95), some (83, true), []⟩,
 ⟨16, some 97, .pick (.t 83) (.t 96) (.k (.sc (.bool false))), none, []⟩] true [0, 1, 2, 3, 4, 10, 11, 12, 13, 97])
 (.cond (.t 97)
 (.seq (.region 0 [
 ⟨0, some 98, .mv (.t 0), none, []⟩,
 ⟨1, some 99, .mv (.t 1), none, []⟩,
 ⟨2, some 100, .mv (.t 2), none, []⟩,
 ⟨3, some 101, .mv (.t 13), none, []⟩,
 ⟨4, some 102, .mv (.t 4), none, []⟩,
 ⟨5, some 103, .call false (.f 184) [.t 98, .t 99, .t 100, .t 101, .t 102], none, []⟩,
 ⟨6, some 15, .mv (.t 103), none, []⟩] false [0, 2, 3, 4, 10, 11, 15])
 (.seq (.region 0 [
 ⟨0, some 104, .mv (.t 15), none, []⟩,
 ⟨1, some 1, .mv (.t 104), none, []⟩] false [0, 1, 2, 3, 4, 10, 11])
 (.exit 1)))
 (.skip)))
 (.seq (.region 0 [
 ⟨0, some 106, .mv (.t 0), none, []⟩,
 ⟨1, some 107, .mv (.t 1), none, []⟩,
 ⟨2, some 108, .mv (.t 2), none, []⟩,
 ⟨3, some 109, .mv (.t 13), none, []⟩,
 ⟨4, some 110, .mv (.t 4), none, []⟩,
 ⟨5, some 111, .call false (.f 185) [.t 106, .t 107, .t 108, .t 109, .t 110], none, []⟩,
 ⟨6, some 105, .mv (.t 111), none, []⟩,
 ⟨7, some 112, .ext (.t 105) 0, none, []⟩,
 ⟨8, some 113, .ext (.t 105) 1, none, []⟩,
 ⟨9, some 16, .mv (.t 112), none, []⟩,
 ⟨10, some 17, .mv (.t 113), none, []⟩] false [0, 1, 2, 3, 4, 12, 16, 17])
 (.seq (.region 0 [
 ⟨0, some 114, .mv (.t 17), none, []⟩,
 ⟨1, some 11, .mv (.t 114), none, []⟩] false [0, 1, 2, 3, 4, 11, 12, 16])
 (.seq (.region 0 [
 ⟨0, some 115, .mv (.t 16), none, []⟩,
 ⟨1, some 116, .mv (.t 1), none, []⟩,
 ⟨2, some 117, .bin .sub (.t 115) (.t 116), none, []⟩,
 ⟨3, some 118, .mv (.t 2), none, []⟩,
 ⟨4, some 119, .mv (.t 16), none, []⟩,
 ⟨5, some 120, .bin .sub (.t 118) (.t 119), none, []⟩,
 ⟨6, some 18, .mv (.t 117), none, []⟩,
 ⟨7, some 19, .mv (.t 120), none, []⟩] false [0, 1, 2, 3, 4, 11, 12, 16, 18, 19])
 (.seq (.region 0 [
 ⟨0, some 121, .mv (.t 12), none, []⟩,
 ⟨1, some 122, .bin .quo (.t 121) (.k (.sc (.int .i64 8))), none, []⟩,
 ⟨2, some 20, .mv (.t 122), none, []⟩] false [0, 1, 2, 3, 4, 11, 16, 18, 19, 20])
 (.seq (.region 0 [
 ⟨0, some 123, .mv (.t 18), none, []⟩,
 ⟨1, some 124, .mv (.t 19), none, []⟩,
 ⟨2, some 125, .bin .lss (.t 123) (.t 124), none, []⟩] false [0, 1, 2, 3, 4, 11, 16, 18, 19, 20, 125])
 (.cond (.t 125)
 (.seq (.region 0 [
 ⟨0, some 126, .mv (.t 18), none, []⟩,
 ⟨1, some 127, .mv (.t 20), none, []⟩,
 ⟨2, some 128, .bin .geq (.t 126) (.t 127), none, []⟩,
 ⟨3, some 10, .mv (.t 128), none, []⟩] false [0, 1, 2, 3, 4, 10, 11, 16])
 (.seq (.region 0 [
 ⟨0, some 129, .mv (.t 0), none, []⟩,
 ⟨1, some 130, .mv (.t 1), none, []⟩,
 ⟨2, some 131, .mv (.t 16), none, []⟩,
 ⟨3, some 132, .mv (.t 3), none, []⟩,
 ⟨4, some 133, .mv (.t 4), none, []⟩,
 ⟨5, some 134, .call false (.f 162) [.t 129, .t 130, .t 131, .t 132, .t 133], none, []⟩] false [0, 2, 3, 4, 10, 11, 16])
 (.region 0 [
 ⟨0, some 135, .mv (.t 16), none, []⟩,
 ⟨1, some 136, .bin .add (.t 135) (.k (.sc (.int .i64 1))), none, []⟩,
 ⟨2, some 1, .mv (.t 136), none, []⟩] false [0, 1, 2, 3, 4, 10, 11])))
 (.seq (.region 0 [
 ⟨0, some 137, .mv (.t 19), none, []⟩,
 ⟨1, some 138, .mv (.t 20), none, []⟩,
 ⟨2, some 139, .bin .geq (.t 137) (.t 138), none, []⟩,
 ⟨3, some 10, .mv (.t 139), none, []⟩] false [0, 1, 2, 3, 4, 10, 11, 16])
 (.seq (.region 0 [
 ⟨0, some 140, .mv (.t 0), none, []⟩,
 ⟨1, some 141, .mv (.t 16), none, []⟩,
 ⟨2, some 142, .bin .add (.t 141) (.k (.sc (.int .i64 1))), none, []⟩,
 ⟨3, some 143, .mv (.t 2), none, []⟩,
 ⟨4, some 144, .mv (.t 3), none, []⟩,
 ⟨5, some 145, .mv (.t 4), none, []⟩,
 ⟨6, some 146, .call false (.f 162) [.t 140, .t 142, .t 143, .t 144, .t 145], none, []⟩] false [0, 1, 3, 4, 10, 11, 16])
 (.region 0 [
 ⟨0, some 147, .mv (.t 16), none, []⟩,
 ⟨1, some 2, .mv (.t 147), none, []⟩] false [0, 1, 2, 3, 4, 10, 11]))))))))))))))))))
def a1Y : AC := .loop [0, 1, 2, 3, 4, 10, 11] a1X
def a1v : Fn := ⟨5, 148, [],
 (.seq (.region 0 [
 ⟨0, some 10, .mv (.k (.sc (.bool true))), none, []⟩] false [0, 1, 2, 3, 4, 10])
 (.seq (.region 0 [
 ⟨0, some 11, .mv (.k (.sc (.bool true))), none, []⟩] false [0, 1, 2, 3, 4, 10, 11])
 (.block 0 (a1Y)))), false⟩
def a5J : Fn := ⟨1, 8, [(2, none)],
 (.seq (.region 0 [
 ⟨0, some 2, .mv (.k (.sc (.int .i64 0))), none, []⟩] false [0])
 (.seq (.cond (.k (.sc (.bool false)))
 (.seq (.region 0 [
 ⟨0, some 3, .mv (.t 0), none, []⟩,
 ⟨1, some 4, .conv .u32 (.t 3), none, []⟩,
 ⟨2, some 5, .call true (.f 186) [.t 4], none, []⟩,
 ⟨3, some 2, .mv (.t 5), none, []⟩] false [2])
 (.ret))
 (.skip))
 (.seq (.region 0 [
 ⟨0, some 6, .mv (.t 0), none, []⟩,
 ⟨1, some 7, .call true (.f 187) [.t 6], none, []⟩,
 ⟨2, some 2, .mv (.t 7), none, []⟩] false [2])
 (.ret)))), false⟩
def a2Q : Fn := ⟨2, 9, [(4, none)],
 (.seq (.region 0 [
 ⟨0, some 4, .mv (.k (.sc (.bool false))), none, []⟩] false [0, 1])
 (.seq (.region 0 [
 ⟨0, some 5, .mv (.t 0), none, []⟩,
 ⟨1, some 6, .mv (.t 1), none, []⟩,
 ⟨2, some 7, .call true (.f 83) [.t 5, .t 6], none, []⟩,
 ⟨3, some 8, .bin .geq (.t 7) (.k (.sc (.int .i64 0))), none, []⟩,
 ⟨4, some 4, .mv (.t 8), none, []⟩] false [4])
 (.ret))), false⟩
def a3u : Fn := ⟨2, 8, [],
 (.seq (.region 1 [
 ⟨0, some 2, .box 0 (.t 0), none, []⟩] false [1, 2])
 (.seq (.region 1 [
 ⟨0, some 3, .alloc 0 [.nilf], none, []⟩] false [1, 2, 3])
 (.seq (.region 0 [
 ⟨0, some 4, .mkf 196 [] [] [.t 2, .t 1, .t 3], none, []⟩,
 ⟨1, none, .store 1 (.t 3) (.t 4), none, []⟩] false [3])
 (.region 0 [
 ⟨0, some 5, .load none (.t 3), none, []⟩,
 ⟨1, some 6, .call true (.f 197) [], none, []⟩,
 ⟨2, some 7, .call false (.t 5) [.t 6, .k (.sc (.int .i64 0))], none, []⟩] true [])))), false⟩
def a0u : AC :=
 (.seq (.region 0 [
 ⟨0, some 27, .bin .lss (.t 26) (.t 25), none, []⟩] false [1, 4, 5, 8, 25, 26, 27])
 (.seq (.cond (.t 27)
 (.skip)
 (.exit 0))
 (.seq (.block 1 (.seq (.region 0 [
 ⟨0, some 28, .mv (.t 26), none, []⟩,
 ⟨1, some 9, .mv (.t 28), none, []⟩] false [1, 4, 5, 8, 9, 25, 26])
 (.seq (.region 0 [
 ⟨0, some 29, .mv (.t 1), none, []⟩,
 ⟨1, some 30, .faddr 0 (.t 8), none, []⟩,
 ⟨2, some 31, .load none (.t 30), none, []⟩,
 ⟨3, some 32, .mv (.t 9), none, []⟩,
 ⟨4, some 33, .bin .add (.t 31) (.t 32), none, []⟩,
 ⟨5, some 34, .iarr 3 1 (.t 5) (.t 29), none, []⟩,
 ⟨6, none, .store 1 (.t 34) (.t 33), none, []⟩] false [1, 4, 5, 8, 25, 26])
 (.seq (.region 0 [
 ⟨0, some 35, .load none (.t 4), none, []⟩,
 ⟨1, some 36, .load (some 3) (.t 5), none, []⟩,
 ⟨2, some 37, .mv (.t 1), none, []⟩,
 ⟨3, some 38, .bin .add (.t 37) (.k (.sc (.int .i64 1))), none, []⟩,
 ⟨4, some 39, .call false (.t 35) [.t 36, .t 38], none, []⟩,
 ⟨5, some 40, .un .not (.t 39), none, []⟩] false [1, 4, 5, 8, 25, 26, 40])
 (.cond (.t 40)
 (.seq (.region 0 [
 ⟨0, some 7, .mv (.k (.sc (.bool false))), none, []⟩] false [7])
 (.ret))
 (.skip))))))
 (.region 0 [
 ⟨0, some 41, .bin .add (.t 26) (.k (.sc (.int .i64 1))), none, []⟩,
 ⟨1, some 26, .mv (.t 41), none, []⟩] false [1, 4, 5, 8, 25, 26]))))
def a7A : AC := .loop [1, 4, 5, 8, 25, 26] a0u
def a1O : Fn := ⟨5, 42, [(7, none)],
 (.seq (.region 1 [
 ⟨0, some 5, .box 0 (.t 0), none, []⟩,
 ⟨1, some 7, .mv (.k (.sc (.bool false))), none, []⟩] false [1, 2, 3, 4, 5])
 (.seq (.seq (.region 0 [
 ⟨0, some 10, .mv (.t 1), none, []⟩,
 ⟨1, some 11, .bin .eql (.t 10) (.k (.sc (.int .i64 3))), none, []⟩] false [1, 2, 3, 4, 5, 11])
 (.cond (.t 11)
 (.seq (.region 0 [
 ⟨0, some 12, .load none (.t 2), none, []⟩,
 ⟨1, some 13, .load (some 3) (.t 5), none, []⟩,
 ⟨2, some 14, .call false (.t 12) [.t 13], none, []⟩,
 ⟨3, some 7, .mv (.t 14), none, []⟩] false [7])
 (.ret))
 (.skip)))
 (.seq (.region 1 [
 ⟨0, some 15, .mv (.t 1), none, []⟩,
 ⟨1, some 16, .faddr 0 (.t 3), none, []⟩,
 ⟨2, some 17, .faddr 1 (.t 16), none, []⟩,
 ⟨3, some 18, .iarr 3 2 (.t 17) (.t 15), none, []⟩,
 ⟨4, some 19, .load (some 2) (.t 18), none, []⟩,
 ⟨5, some 8, .alloc 0 [.int .i64 0, .int .i64 0], none, []⟩,
 ⟨6, none, .store 2 (.t 8) (.t 19), none, []⟩] false [1, 4, 5, 8])
 (.seq (.seq (.region 0 [
 ⟨0, some 20, .faddr 1 (.t 8), none, []⟩,
 ⟨1, some 21, .load none (.t 20), none, []⟩,
 ⟨2, some 22, .faddr 0 (.t 8), none, []⟩,
 ⟨3, some 23, .load none (.t 22), none, []⟩,
 ⟨4, some 24, .bin .sub (.t 21) (.t 23), none, []⟩,
 ⟨5, some 25, .bin .add (.t 24) (.k (.sc (.int .i64 1))), none, []⟩,
 ⟨6, some 26, .mv (.k (.sc (.int .i64 0))), none, []⟩] false [1, 4, 5, 8, 25, 26])
 (.block 0 (a7A)))
 (.seq (.region 0 [
 ⟨0, some 7, .mv (.k (.sc (.bool true))), none, []⟩] false [7])
 (.ret)))))), false⟩
def a5v : Fn := ⟨0, 3, [(0, some (some 3))],
 (.seq (.region 1 [
 ⟨0, some 0, .alloc 0 [.int .i64 0, .int .i64 0, .int .i64 0], none, []⟩] false [0])
 (.seq (.region 1 [
 ⟨0, some 1, .alloc 0 [.int .i64 0, .int .i64 0, .int .i64 0], none, []⟩] false [0, 1])
 (.seq (.region 0 [
 ⟨0, some 2, .load (some 3) (.t 1), none, []⟩,
 ⟨1, none, .store 3 (.t 0) (.t 2), none, []⟩] false [0])
 (.ret)))), false⟩
def a0y : AC :=
 (.seq (.region 0 [
 ⟨0, some 9, .bin .lss (.t 8) (.t 7), none, []⟩] false [0, 3, 7, 8, 9])
 (.seq (.cond (.t 9)
 (.skip)
 (.exit 0))
 (.seq (.block 1 (.seq (.region 0 [
 ⟨0, some 10, .mv (.t 8), none, []⟩,
 ⟨1, some 5, .mv (.t 10), none, []⟩] false [0, 3, 5, 7, 8])
 (.seq (.region 0 [
 ⟨0, some 11, .load (some 2) (.t 3), none, []⟩,
 ⟨1, some 12, .mv (.t 0), none, []⟩,
 ⟨2, some 13, .mv (.t 5), none, []⟩,
 ⟨3, some 14, .iaddr 2 (.t 12) (.t 13), none, []⟩,
 ⟨4, some 15, .load (some 2) (.t 14), none, []⟩,
 ⟨5, some 16, .eqf false ⟨true, [1, 1]⟩ (.t 11) (.t 15), none, []⟩] true [0, 3, 5, 7, 8, 16])
 (.cond (.t 16)
 (.seq (.region 0 [
 ⟨0, some 17, .mv (.t 5), none, []⟩,
 ⟨1, some 4, .mv (.t 17), none, []⟩] false [4])
 (.ret))
 (.skip)))))
 (.region 0 [
 ⟨0, some 18, .bin .add (.t 8) (.k (.sc (.int .i64 1))), none, []⟩,
 ⟨1, some 8, .mv (.t 18), none, []⟩] false [0, 3, 7, 8]))))
def a3R : AC := .loop [0, 3, 7, 8] a0y
def a1x : Fn := ⟨2, 19, [(4, none)],
 (.seq (.region 1 [
 ⟨0, some 3, .box 0 (.t 1), none, []⟩,
 ⟨1, some 4, .mv (.k (.sc (.int .i64 0))), none, []⟩] false [0, 3])
 (.seq (.seq (.region 0 [
 ⟨0, some 6, .mv (.t 0), none, []⟩,
 ⟨1, some 7, .len 1 (.t 6), none, []⟩,
 ⟨2, some 8, .mv (.k (.sc (.int .i64 0))), none, []⟩] false [0, 3, 7, 8])
 (.block 0 (a3R)))
 (.seq (.region 0 [
 ⟨0, some 4, .mv (.k (.sc (.int .i64 (-1)))), none, []⟩] false [4])
 (.ret)))), false⟩
def cmp_isNaN_int : Fn := ⟨1, 6, [(2, none)],
 (.seq (.region 0 [
 ⟨0, some 2, .mv (.k (.sc (.bool false))), none, []⟩] false [0])
 (.seq (.region 0 [
 ⟨0, some 3, .mv (.t 0), none, []⟩,
 ⟨1, some 4, .mv (.t 0), none, []⟩,
 ⟨2, some 5, .bin .neq (.t 3) (.t 4), none, []⟩,
 ⟨3, some 2, .mv (.t 5), none, []⟩] false [2])
 (.ret))), false⟩
def a0B : AC :=
 (.seq (.seq (.region 0 [
 ⟨0, some 18, .mv (.t 9), none, []⟩,
 ⟨1, some 19, .mv (.t 1), none, []⟩,
 ⟨2, some 20, .bin .gtr (.t 18) (.t 19), none, []⟩,
 ⟨3, some 21, .mv (.t 20), none, []⟩,
 ⟨4, some 22, .mv (.t 3), some (21, true), []⟩,
 ⟨5, some 23, .mv (.t 0), some (21, true), []⟩,
 ⟨6, some 24, .mv (.t 9), some (21, true), []⟩,
 ⟨7, some 25, .iaddr 2 (.t 23) (.t 24), some (21, true), []⟩,
 ⟨8, some 26, .load (some 2) (.t 25), some (21, true), []⟩,
 ⟨9, some 27, .mv (.t 0), some (21, true), []⟩,
 ⟨10, some 28, .mv (.t 9), some (21, true), []⟩,
 ⟨11, some 29, .bin .sub (.t 28) (.k (.sc (.int .i64 1))), some (21, true), []⟩,
 ⟨12, some 30, .iaddr 2 (.t 27) (.t 29), some (21, true), []⟩,
 ⟨13, some 31, .load (some 2) (.t 30), some (21, true), []⟩,
 ⟨14, some 32, .call true (.t 22) [.t 26, .t 31], some (21, true), []⟩,
 ⟨15, some 33, .bin .lss (.t 32) (.k (.sc (.int .i64 0))), some (21, true), []⟩,
 ⟨16, some 34, .pick (.t 21) (.t 33) (.k (.sc (.bool false))), none, []⟩] true [0, 1, 2, 3, 8, 9, 34])
 (.cond (.t 34)
 (.skip)
 (.exit 2)))
 (.seq (.block 3 (.region 0 [
 ⟨0, some 37, .mv (.t 0), none, []⟩,
 ⟨1, some 38, .mv (.t 9), none, []⟩,
 ⟨2, some 39, .mv (.t 0), none, []⟩,
 ⟨3, some 40, .mv (.t 9), none, []⟩,
 ⟨4, some 41, .bin .sub (.t 40) (.k (.sc (.int .i64 1))), none, []⟩,
 ⟨5, some 42, .mv (.t 0), none, []⟩,
 ⟨6, some 43, .mv (.t 9), none, []⟩,
 ⟨7, some 44, .bin .sub (.t 43) (.k (.sc (.int .i64 1))), none, []⟩,
 ⟨8, some 45, .iaddr 2 (.t 42) (.t 44), none, []⟩,
 ⟨9, some 46, .load (some 2) (.t 45), none, []⟩,
 ⟨10, some 47, .mv (.t 0), none, []⟩,
 ⟨11, some 48, .mv (.t 9), none, []⟩,
 ⟨12, some 49, .iaddr 2 (.t 47) (.t 48), none, []⟩,
 ⟨13, some 50, .load (some 2) (.t 49), none, []⟩,
 ⟨14, some 51, .iaddr 2 (.t 37) (.t 38), none, []⟩,
 ⟨15, none, .store 2 (.t 51) (.t 46), none, []⟩,
 ⟨16, some 52, .iaddr 2 (.t 39) (.t 41), none, []⟩,
 ⟨17, none, .store 2 (.t 52) (.t 50), none, []⟩] true [0, 1, 2, 3, 8, 9]))
 (.region 0 [
 ⟨0, some 35, .mv (.t 9), none, []⟩,
 ⟨1, some 36, .bin .sub (.t 35) (.k (.sc (.int .i64 1))), none, []⟩,
 ⟨2, some 9, .mv (.t 36), none, []⟩] false [0, 1, 2, 3, 8, 9])))
def a2p : AC := .loop [0, 1, 2, 3, 8, 9] a0B
def a0F : AC :=
 (.seq (.seq (.region 0 [
 ⟨0, some 12, .mv (.t 8), none, []⟩,
 ⟨1, some 13, .mv (.t 2), none, []⟩,
 ⟨2, some 14, .bin .lss (.t 12) (.t 13), none, []⟩] false [0, 1, 2, 3, 8, 14])
 (.cond (.t 14)
 (.skip)
 (.exit 0)))
 (.seq (.block 1 (.seq (.region 0 [
 ⟨0, some 17, .mv (.t 8), none, []⟩,
 ⟨1, some 9, .mv (.t 17), none, []⟩] false [0, 1, 2, 3, 8, 9])
 (.block 2 (a2p))))
 (.region 0 [
 ⟨0, some 15, .mv (.t 8), none, []⟩,
 ⟨1, some 16, .bin .add (.t 15) (.k (.sc (.int .i64 1))), none, []⟩,
 ⟨2, some 8, .mv (.t 16), none, []⟩] false [0, 1, 2, 3, 8])))
def a1L : AC := .loop [0, 1, 2, 3, 8] a0F
def a1c : Fn := ⟨4, 53, [],
 (.seq (.region 0 [
 ⟨0, some 10, .mv (.t 1), none, []⟩,
 ⟨1, some 11, .bin .add (.t 10) (.k (.sc (.int .i64 1))), none, []⟩,
 ⟨2, some 8, .mv (.t 11), none, []⟩] false [0, 1, 2, 3, 8])
 (.block 0 (a1L))), false⟩
def a0P : Fn := ⟨1, 25, [(2, none)],
 (.seq (.region 0 [
 ⟨0, some 2, .mv (.k (.sc (.int .i64 0))), none, []⟩] false [0, 2])
 (.seq (.seq (.region 0 [
 ⟨0, some 3, .mv (.t 0), none, []⟩,
 ⟨1, some 4, .bin .geq (.t 3) (.k (.sc (.int .u64 4294967296))), none, []⟩] false [0, 2, 4])
 (.cond (.t 4)
 (.seq (.region 0 [
 ⟨0, some 5, .mv (.t 0), none, []⟩,
 ⟨1, some 6, .bin .shr (.t 5) (.k (.sc (.int .u64 32))), none, []⟩,
 ⟨2, some 0, .mv (.t 6), none, []⟩] false [0])
 (.region 0 [
 ⟨0, some 2, .mv (.k (.sc (.int .i64 32))), none, []⟩] false [0, 2]))
 (.skip)))
 (.seq (.seq (.region 0 [
 ⟨0, some 7, .mv (.t 0), none, []⟩,
 ⟨1, some 8, .bin .geq (.t 7) (.k (.sc (.int .u64 65536))), none, []⟩] false [0, 2, 8])
 (.cond (.t 8)
 (.seq (.region 0 [
 ⟨0, some 9, .mv (.t 0), none, []⟩,
 ⟨1, some 10, .bin .shr (.t 9) (.k (.sc (.int .u64 16))), none, []⟩,
 ⟨2, some 0, .mv (.t 10), none, []⟩] false [0, 2])
 (.region 0 [
 ⟨0, some 11, .mv (.t 2), none, []⟩,
 ⟨1, some 12, .bin .add (.t 11) (.k (.sc (.int .i64 16))), none, []⟩,
 ⟨2, some 2, .mv (.t 12), none, []⟩] false [0, 2]))
 (.skip)))
 (.seq (.seq (.region 0 [
 ⟨0, some 13, .mv (.t 0), none, []⟩,
 ⟨1, some 14, .bin .geq (.t 13) (.k (.sc (.int .u64 256))), none, []⟩] false [0, 2, 14])
 (.cond (.t 14)
 (.seq (.region 0 [
 ⟨0, some 15, .mv (.t 0), none, []⟩,
 ⟨1, some 16, .bin .shr (.t 15) (.k (.sc (.int .u64 8))), none, []⟩,
 ⟨2, some 0, .mv (.t 16), none, []⟩] false [0, 2])
 (.region 0 [
 ⟨0, some 17, .mv (.t 2), none, []⟩,
 ⟨1, some 18, .bin .add (.t 17) (.k (.sc (.int .i64 8))), none, []⟩,
 ⟨2, some 2, .mv (.t 18), none, []⟩] false [0, 2]))
 (.skip)))
 (.seq (.region 0 [
 ⟨0, some 19, .mv (.t 2), none, []⟩,
 ⟨1, some 20, .mv (.t 0), none, []⟩,
 ⟨2, some 21, .conv .u8 (.t 20), none, []⟩,
 ⟨3, some 22, .istr (.k (.sc (.str ⟨#[0, 1, 2, 2, 3, 3, 3, 3, 4, 4, 4, 4, 4, 4, 4, 4, 5, 5, 5, 5, 5, 5, 5, 5, 5, 5, 5, 5, 5, 5, 5, 5, 6, 6, 6, 6, 6, 6, 6, 6, 6, 6, 6, 6, 6, 6, 6, 6, 6, 6, 6, 6, 6, 6, 6, 6, 6, 6, 6, 6, 6, 6, 6, 6, 7, 7, 7, 7, 7, 7, 7, 7, 7, 7, 7, 7, 7, 7, 7, 7, 7, 7, 7, 7, 7, 7, 7, 7, 7, 7, 7, 7, 7, 7, 7, 7, 7, 7, 7, 7, 7, 7, 7, 7, 7, 7, 7, 7, 7, 7, 7, 7, 7, 7, 7, 7, 7, 7, 7, 7, 7, 7, 7, 7, 7, 7, 7, 7, 8, 8, 8, 8, 8, 8, 8, 8, 8, 8, 8, 8, 8, 8, 8, 8, 8, 8, 8, 8, 8, 8, 8, 8, 8, 8, 8, 8, 8, 8, 8, 8, 8, 8, 8, 8, 8, 8, 8, 8, 8, 8, 8, 8, 8, 8, 8, 8, 8, 8, 8, 8, 8, 8, 8, 8, 8, 8, 8, 8, 8, 8, 8, 8, 8, 8, 8, 8, 8, 8, 8, 8, 8, 8, 8, 8, 8, 8, 8, 8, 8, 8, 8, 8, 8, 8, 8, 8, 8, 8, 8, 8, 8, 8, 8, 8, 8, 8, 8, 8, 8, 8, 8, 8, 8, 8, 8, 8, 8, 8, 8, 8, 8, 8, 8, 8, 8, 8, 8, 8, 8, 8, 8, 8, 8, 8, 8, 8]⟩))) (.t 21), none, []⟩,
 ⟨4, some 23, .conv .i64 (.t 22), none, []⟩,
 ⟨5, some 24, .bin .add (.t 19) (.t 23), none, []⟩,
 ⟨6, some 2, .mv (.t 24), none, []⟩] false [2])
 (.ret)))))), false⟩
def a2R : AC :=
 (.seq (.region 0 [
 ⟨0, some 9, .bin .lss (.t 8) (.t 7), none, []⟩] false [0, 1, 7, 8, 9])
 (.seq (.cond (.t 9)
 (.skip)
 (.exit 0))
 (.seq (.block 1 (.seq (.region 0 [
 ⟨0, some 10, .mv (.t 8), none, []⟩,
 ⟨1, some 5, .mv (.t 10), none, []⟩] false [0, 1, 5, 7, 8])
 (.seq (.region 0 [
 ⟨0, some 11, .mv (.t 1), none, []⟩,
 ⟨1, some 12, .mv (.t 0), none, []⟩,
 ⟨2, some 13, .mv (.t 5), none, []⟩,
 ⟨3, some 14, .iaddr 1 (.t 12) (.t 13), none, []⟩,
 ⟨4, some 15, .load none (.t 14), none, []⟩,
 ⟨5, some 16, .bin .eql (.t 11) (.t 15), none, []⟩] false [0, 1, 5, 7, 8, 16])
 (.cond (.t 16)
 (.seq (.region 0 [
 ⟨0, some 17, .mv (.t 5), none, []⟩,
 ⟨1, some 4, .mv (.t 17), none, []⟩] false [4])
 (.ret))
 (.skip)))))
 (.region 0 [
 ⟨0, some 18, .bin .add (.t 8) (.k (.sc (.int .i64 1))), none, []⟩,
 ⟨1, some 8, .mv (.t 18), none, []⟩] false [0, 1, 7, 8]))))
def a8d : AC := .loop [0, 1, 7, 8] a2R
def a3r : Fn := ⟨2, 19, [(4, none)],
 (.seq (.region 0 [
 ⟨0, some 4, .mv (.k (.sc (.int .i64 0))), none, []⟩] false [0, 1])
 (.seq (.seq (.region 0 [
 ⟨0, some 6, .mv (.t 0), none, []⟩,
 ⟨1, some 7, .len 1 (.t 6), none, []⟩,
 ⟨2, some 8, .mv (.k (.sc (.int .i64 0))), none, []⟩] false [0, 1, 7, 8])
 (.block 0 (a8d)))
 (.seq (.region 0 [
 ⟨0, some 4, .mv (.k (.sc (.int .i64 (-1)))), none, []⟩] false [4])
 (.ret)))), false⟩
def a4g : Fn := ⟨3, 8, [(6, none)],
 (.seq (.region 2 [
 ⟨0, some 3, .box 0 (.t 0), none, []⟩,
 ⟨1, some 5, .box 1 (.t 2), none, []⟩,
 ⟨2, some 6, .mv (.k (.sc (.int .i64 0))), none, []⟩] false [1])
 (.seq (.region 0 [
 ⟨0, some 7, .mv (.t 1), none, []⟩,
 ⟨1, some 6, .mv (.t 7), none, []⟩] false [6])
 (.ret))), false⟩
def a3n : Fn := ⟨3, 24, [(6, none)],
 (.seq (.region 2 [
 ⟨0, some 3, .box 0 (.t 0), none, []⟩,
 ⟨1, some 5, .box 1 (.t 2), none, []⟩,
 ⟨2, some 6, .mv (.k (.sc (.int .i64 0))), none, []⟩] false [1, 3, 5])
 (.seq (.seq (.region 0 [
 ⟨0, some 7, .load (some 3) (.t 3), none, []⟩,
 ⟨1, some 8, .call true (.f 197) [], none, []⟩,
 ⟨2, some 9, .eqf false ⟨true, [1, 1, 1]⟩ (.t 7) (.t 8), none, []⟩] true [1, 3, 5, 9])
 (.cond (.t 9)
 (.seq (.region 0 [
 ⟨0, some 10, .mv (.t 1), none, []⟩,
 ⟨1, some 6, .mv (.t 10), none, []⟩] false [6])
 (.ret))
 (.skip)))
 (.seq (.region 0 [
 ⟨0, some 11, .mv (.t 1), none, []⟩,
 ⟨1, some 12, .faddr 0 (.t 5), none, []⟩,
 ⟨2, some 13, .load none (.t 12), none, []⟩,
 ⟨3, some 14, .iarr 3 1 (.t 3) (.k (.sc (.int .i64 0))), none, []⟩,
 ⟨4, some 15, .load none (.t 14), none, []⟩,
 ⟨5, some 16, .bin .mul (.t 13) (.t 15), none, []⟩,
 ⟨6, some 17, .bin .sub (.t 11) (.t 16), none, []⟩,
 ⟨7, some 18, .faddr 1 (.t 5), none, []⟩,
 ⟨8, some 19, .load none (.t 18), none, []⟩,
 ⟨9, some 20, .iarr 3 1 (.t 3) (.k (.sc (.int .i64 1))), none, []⟩,
 ⟨10, some 21, .load none (.t 20), none, []⟩,
 ⟨11, some 22, .bin .mul (.t 19) (.t 21), none, []⟩,
 ⟨12, some 23, .bin .sub (.t 17) (.t 22), none, []⟩,
 ⟨13, some 6, .mv (.t 23), none, []⟩] false [6])
 (.ret)))), false⟩
def a1a : Fn := ⟨1, 8, [(2, none)],
 (.seq (.region 0 [
 ⟨0, some 2, .mv (.k (.sc (.sl .nil 2 []))), none, []⟩] false [0])
 (.seq (.seq (.region 0 [
 ⟨0, some 3, .mv (.t 0), none, []⟩,
 ⟨1, some 4, .isnil 0 false (.t 3), none, []⟩] false [0, 4])
 (.cond (.t 4)
 (.seq (.region 0 [
 ⟨0, some 2, .mv (.k (.sc (.sl .nil 2 []))), none, []⟩] false [2])
 (.ret))
 (.skip)))
 (.seq (.region 1 [
 ⟨0, some 5, .bslice 2 0 [.int .i64 0, .int .i64 0] [], none, []⟩,
 ⟨1, some 6, .mv (.t 0), none, []⟩,
 ⟨2, some 7, .appendM 0 2 (.t 5) (.t 6), none, []⟩,
 ⟨3, some 2, .mv (.tk 7), none, []⟩] false [2])
 (.ret)))), true⟩
end Go.Pm.Ac
namespace Go.Pm
inductive Tag {α : Type} (a : α) : Type where
  | mk
inductive Tag2 {α β : Type} (a : α) (b : β) : Type where
  | mk
inductive Tag3 {α β γ : Type} (a : α) (b : β) (c : γ) : Type where
  | mk
def andThen {β : Type} (r : Option (Ex × St)) (Q : Ex -> St -> Option β) : Option β :=
  match r with
  | some (e, s) => Q e s
  | none => none
noncomputable def E {β : Type} (Γ : Env) (c : AC) (s : St) (Q : Ex -> St -> Option β) (_ : Tag2 c Q := .mk) : Option β := andThen (X Γ c s) Q
theorem nrfl {α : Sort _} {a b : α} (h : a = b) : a = b := h
noncomputable def P1 {β : Type} (Γ : Env) (base : Nat) (dst : Option Nat) (o : Op) (s : St) (k : St -> Option β) (_ : Tag3 dst o k := .mk) : Option β :=
  match perform (K Γ) base s.h (rd Γ s.t) o with
  | none => none
  | some (v, h) => k { t := put1 dst v (drop o.takes s.t), h := h }
noncomputable def R0 {β : Type} (Γ : Env) (base : Nat) : List Oper -> St -> (St -> Option β) -> Option β
  | [], s, k => k s
  | o :: os, s, k => match o.guard with
    | none => P1 Γ base o.dst o.op s fun s => R0 Γ base os s k
    | some (g, w) => match get s.t g with
      | .sc (.bool b) => if b = w then P1 Γ base o.dst o.op { t := (g, .sc (.bool w)) :: s.t, h := s.h } fun s => R0 Γ base os s k else R0 Γ base os { t := put1 o.dst (.tup []) ((g, .sc (.bool !w)) :: s.t), h := s.h } k
      | .tup [] => R0 Γ base os { t := put1 o.dst (.tup []) s.t, h := s.h } k
      | _ => none
noncomputable def R {β : Type} (Γ : Env) (base : Nat) (os : List Oper) (s : St) (k : St -> Option β) (_ : Tag2 os k := .mk) : Option β := R0 Γ base os s k
def Same (s s' : St) : Prop := (∀ i, get s.t i = get s'.t i) /\ s.h = s'.h
theorem Same.refl (s : St) : Same s s := ⟨fun _ => rfl, rfl⟩
theorem Same.rd {Γ : Env} {s s' : St} (h : Same s s') (x : Rand) : rd Γ s.t x = rd Γ s'.t x := by
  cases x <;> simp only [Pm.rd] <;> rw [h.1]
theorem Same.put {s s' : St} (h : Same s s') (d : Option Nat) (v : V) (k : List Obj) : Same { t := put1 d v s.t, h := k } { t := put1 d v s'.t, h := k } := by
  refine ⟨fun i => ?_, rfl⟩
  cases d with
  | none => exact h.1 i
  | some d => simp only [put1, get]; rw [h.1]
theorem Same.drop {s s' : St} (h : Same s s') : ∀ (l : List Nat) (k : List Obj), Same { t := drop l s.t, h := k } { t := drop l s'.t, h := k }
  | [], k => ⟨h.1, rfl⟩
  | j :: l, k => by
    have : Same { t := (j, (get s.t j).a0r) :: s.t, h := k } { t := (j, (get s'.t j).a0r) :: s'.t, h := k } := ⟨fun i => by simp only [get]; rw [h.1, h.1], rfl⟩
    exact Same.drop this l k
theorem Same.learn {s : St} {g : Nat} {v : V} (h : get s.t g = v) : Same s { t := (g, v) :: s.t, h := s.h } := ⟨fun i => by
  simp only [get]
  split
  . rename_i e; subst e; exact h
  . rfl, rfl⟩
theorem Same.put' {s s' : St} (h : Same s s') (d : Option Nat) (v : V) (l : List Nat) (k : List Obj) : Same { t := put1 d v (Pm.drop l s.t), h := k } { t := put1 d v (Pm.drop l s'.t), h := k } :=
  (h.drop l k).put d v k
theorem a7D {β : Type} {Γ : Env} {base : Nat} {d : Option Nat} {o : Op} {s s' : St} {k : St -> Option β} (hk : ∀ s s', Same s s' -> k s = k s') (h : Same s s') : P1 Γ base d o s k = P1 Γ base d o s' k := by
  have hp : perform (K Γ) base s.h (rd Γ s.t) o = perform (K Γ) base s'.h (rd Γ s'.t) o := by
    rw [h.2]; exact congrArg (fun r => perform (K Γ) base s'.h r o) (funext fun x => h.rd x)
  unfold P1
  rw [hp]
  cases perform (K Γ) base s'.h (rd Γ s'.t) o with
  | none => rfl
  | some q => exact hk _ _ (h.put' _ _ _ _)
theorem a8E {β : Type} {Γ : Env} {base : Nat} : ∀ {os : List Oper} {s s' : St} {k : St -> Option β}, (∀ s s', Same s s' -> k s = k s') -> Same s s' -> R0 Γ base os s k = R0 Γ base os s' k
  | [], s, s', k, hk, h => hk _ _ h
  | o :: os, s, s', k, hk, h => by
    unfold R0
    cases o.guard with
    | none => exact a7D (fun _ _ h => a8E hk h) h
    | some p =>
      obtain ⟨g, w⟩ := p
      have lrn : ∀ v, Same { t := (g, v) :: s.t, h := s.h } { t := (g, v) :: s'.t, h := s'.h } := fun v => ⟨fun i => by simp only [get]; rw [h.1], h.2⟩
      simp only
      rw [h.1 g]
      cases get s'.t g with
      | sc c => cases c with
        | bool b =>
          simp only
          by_cases hb : b = w
          . rw [if_pos hb, if_pos hb]; exact a7D (fun _ _ h => a8E hk h) (lrn _)
          . rw [if_neg hb, if_neg hb]; refine a8E hk ?_; rw [h.2]; exact (lrn _).put _ _ _
        | _ => rfl
      | agg => rfl
      | tup vs => cases vs with
        | nil => simp only; refine a8E hk ?_; rw [h.2]; exact h.put _ _ _
        | cons => rfl
theorem b6o {β : Type} (Γ : Env) (base : Nat) {k : St -> Option β} (hk : ∀ s s', Same s s' -> k s = k s') : ∀ (os : List Oper) (s : St), (match steps Γ (K Γ) base os s with | some s => k s | none => none) = R0 Γ base os s k
  | [], s => rfl
  | o :: os, s => by
    have ih := b6o Γ base hk os
    have one : ∀ s0 : St, Same s s0 -> (match (match (match perform (K Γ) base s.h (rd Γ s.t) o.op with
        | none => none
        | some (v, h) => some ({ t := put1 o.dst v (drop o.op.takes s.t), h := h } : St)) with
        | none => none
        | some s => steps Γ (K Γ) base os s) with | some s => k s | none => none) = P1 Γ base o.dst o.op s0 fun s => R0 Γ base os s k := fun s0 h0 => by
      rw [← a7D (fun _ _ h => a8E hk h) h0]
      unfold P1
      cases perform (K Γ) base s.h (rd Γ s.t) o.op with
      | none => rfl
      | some q => exact ih _
    unfold steps R0
    cases hg : o.guard with
    | none =>
      simp only [step, wanted, hg]
      exact one s (.refl s)
    | some p =>
      obtain ⟨g, w⟩ := p
      simp only [step, wanted, hg]
      cases hv : get s.t g with
      | sc c =>
        cases c with
        | bool b =>
          by_cases hb : b = w
          . subst hb
            simp only [beq_self_eq_true, if_true]
            exact one _ (.learn hv)
          . have : (b == w) = false := by simpa using hb
            simp only [this, if_neg hb]
            refine (ih _).trans (a8E hk ?_)
            have : b = !w := by cases b <;> cases w <;> simp at hb ⊢
            exact (Same.learn (s := s) (g := g) (by rw [hv, this])).put _ _ _
        | _ => rfl
      | agg cs => rfl
      | tup vs =>
        cases vs with
        | nil => exact ih _
        | cons => rfl
noncomputable def RT0 {β : Type} (Γ : Env) (base : Nat) : List Oper -> St -> List (Nat × Acc) -> (St -> Option β) -> Option β
  | [], s, _, k => k s
  | o :: os, s, l, k => match o.guard with
    | none => if (o.conf.all fun j => l.all fun p => decide (p.1 ≠ j) || Acc.free p.2 (acc base (rd Γ s.t) o.op)) = true then P1 Γ base o.dst o.op s fun s' => RT0 Γ base os s' ((o.ix, acc base (rd Γ s.t) o.op) :: l) k else none
    | some (g, w) => match get s.t g with
      | .sc (.bool b) => if b = w then (if (o.conf.all fun j => l.all fun p => decide (p.1 ≠ j) || Acc.free p.2 (acc base (rd Γ s.t) o.op)) = true then P1 Γ base o.dst o.op { t := (g, .sc (.bool w)) :: s.t, h := s.h } fun s' => RT0 Γ base os s' ((o.ix, acc base (rd Γ s.t) o.op) :: l) k else none)
          else RT0 Γ base os { t := put1 o.dst (.tup []) ((g, .sc (.bool !w)) :: s.t), h := s.h } l k
      | .tup [] => RT0 Γ base os { t := put1 o.dst (.tup []) s.t, h := s.h } l k
      | _ => none
noncomputable def RTs {β : Type} (Γ : Env) (base : Nat) (os : List Oper) (s : St) (l : List (Nat × Acc)) (k : St -> Option β) (_ : Tag3 os l k := .mk) : Option β := RT0 Γ base os s l k
theorem a7E {β : Type} {Γ : Env} {base : Nat} : ∀ {os : List Oper} {s s' : St} {l : List (Nat × Acc)} {k : St -> Option β}, (∀ s s', Same s s' -> k s = k s') -> Same s s' -> RT0 Γ base os s l k = RT0 Γ base os s' l k
  | [], s, s', l, k, hk, h => hk _ _ h
  | o :: os, s, s', l, k, hk, h => by
    have hacc : acc base (rd Γ s.t) o.op = acc base (rd Γ s'.t) o.op := congrArg (fun r => acc base r o.op) (funext fun x => h.rd x)
    unfold RT0
    rw [hacc]
    cases o.guard with
    | none => simp only; split
              . exact a7D (fun _ _ h => a7E hk h) h
              . rfl
    | some p =>
      obtain ⟨g, w⟩ := p
      have lrn : ∀ v, Same { t := (g, v) :: s.t, h := s.h } { t := (g, v) :: s'.t, h := s'.h } := fun v => ⟨fun i => by simp only [get]; rw [h.1], h.2⟩
      simp only
      rw [h.1 g]
      cases get s'.t g with
      | sc c => cases c with
        | bool b =>
          simp only
          by_cases hb : b = w
          . rw [if_pos hb, if_pos hb]
            split
            . exact a7D (fun _ _ h => a7E hk h) (lrn _)
            . rfl
          . rw [if_neg hb, if_neg hb]; refine a7E hk ?_; rw [h.2]; exact (lrn _).put _ _ _
        | _ => rfl
      | agg => rfl
      | tup vs => cases vs with
        | nil => simp only; refine a7E hk ?_; rw [h.2]; exact h.put _ _ _
        | cons => rfl
theorem b3z {β : Type} (Γ : Env) (base : Nat) {k : St -> Option β} (hk : ∀ s s', Same s s' -> k s = k s') : ∀ (os : List Oper) (s : St) (l : List (Nat × Acc)), (match a3c Γ (K Γ) base os (s, l) with | some s => k s.1 | none => none) = RT0 Γ base os s l k
  | [], s, l => rfl
  | o :: os, s, l => by
    have ih := b3z Γ base hk os
    unfold a3c RT0
    have done : ∀ s0 : St, Same s s0 -> (match (match (if (o.conf.all fun j => l.all fun p => decide (p.1 ≠ j) || Acc.free p.2 (acc base (rd Γ s.t) o.op)) = true then
        Option.map (fun s' => (s', (o.ix, acc base (rd Γ s.t) o.op) :: l)) (match perform (K Γ) base s.h (rd Γ s.t) o.op with
          | none => none
          | some (v, h) => some ({ t := put1 o.dst v (drop o.op.takes s.t), h := h } : St)) else none) with
        | none => (none : Option (St × List (Nat × Acc)))
        | some s => a3c Γ (K Γ) base os s) with | some s => k s.1 | none => none) =
        (if (o.conf.all fun j => l.all fun p => decide (p.1 ≠ j) || Acc.free p.2 (acc base (rd Γ s.t) o.op)) = true then P1 Γ base o.dst o.op s0 fun s' => RT0 Γ base os s' ((o.ix, acc base (rd Γ s.t) o.op) :: l) k else none) := fun s0 h0 => by
      by_cases hc : (o.conf.all fun j => l.all fun p => decide (p.1 ≠ j) || Acc.free p.2 (acc base (rd Γ s.t) o.op)) = true
      . rw [if_pos hc, if_pos hc, ← a7D (fun _ _ h => a7E hk h) h0]
        unfold P1
        cases hp : perform (K Γ) base s.h (rd Γ s.t) o.op with
        | none => rfl
        | some q => obtain ⟨v, h⟩ := q; exact ih _ _
      . rw [if_neg hc, if_neg hc]
    have skip : (match (match Option.map (fun s' => (s', l)) (some ({ t := put1 o.dst (.tup []) s.t, h := s.h } : St)) with
        | none => (none : Option (St × List (Nat × Acc)))
        | some s => a3c Γ (K Γ) base os s) with | some s => k s.1 | none => none) = RT0 Γ base os { t := put1 o.dst (.tup []) s.t, h := s.h } l k := ih _ _
    cases hg : o.guard with
    | none =>
      simp only [stepT, step, wanted, hg]
      exact done s (.refl s)
    | some p =>
      obtain ⟨g, w⟩ := p
      simp only [stepT, step, wanted, hg]
      cases hv : get s.t g with
      | sc c =>
        cases c with
        | bool b =>
          by_cases hb : b = w
          . subst hb
            simp only [beq_self_eq_true, if_true]
            exact done _ (.learn hv)
          . have h1 : (b == w) = false := by simpa using hb
            simp only [h1, if_neg hb]
            refine skip.trans (a7E hk ?_)
            have : b = !w := by cases b <;> cases w <;> simp at hb ⊢
            exact (Same.learn (s := s) (g := g) (by rw [hv, this])).put _ _ _
        | _ => rfl
      | agg cs => rfl
      | tup vs =>
        cases vs with
        | nil => exact skip
        | cons => rfl
theorem a9D {β : Type} {keep : List Nat} {f : St -> Option β} : ∀ s s', Same s s' -> f { t := restrict keep s.t, h := s.h } = f { t := restrict keep s'.t, h := s'.h } := fun s s' h => by
  have : restrict keep s.t = restrict keep s'.t := List.map_congr_left fun i _ => by rw [h.1]
  rw [this, h.2]
/-! ### Words that are gone into from the front alone -/
def a0L {α β : Type} (a : Option α) (f : α -> Option β) (_ : Tag f := .mk) : Option β :=
  match a with
  | some x => f x
  | none => none
@[simp, go_sem] theorem a1K {α β : Type} (x : α) (f : α -> Option β) : a0L (some x) f = f x := nrfl rfl
@[simp, go_sem] theorem c3T {α β : Type} (f : α -> Option β) : a0L none f = none := nrfl rfl
def br {α : Type} (b : Bool) (x y : α) (_ : Tag2 x y := .mk) : α := match b with | true => x | false => y
@[simp, go_sem] theorem a4R {α : Type} (x y : α) : br true x y = x := nrfl rfl
@[simp, go_sem] theorem a4r {α : Type} (x y : α) : br false x y = y := nrfl rfl
theorem a0o {α : Type} {p : Prop} [Decidable p] {x y r : α} (h : p) (h1 : x = r) : br (decide p) x y = r := by rw [decide_eq_true h]; exact h1
theorem a0t {α : Type} {p : Prop} [Decidable p] {x y r : α} (h : ¬ p) (h1 : y = r) : br (decide p) x y = r := by rw [decide_eq_false h]; exact h1
theorem a0n {α : Type} {b : Bool} {x y r : α} (h : b = true) (h1 : x = r) : br b x y = r := by rw [h]; exact h1
theorem a0m {α : Type} {c d : Bool} {x y r : α} (h : (c && d) = true) (h1 : x = r) : br (c && d) x y = r := by rw [h]; exact h1
theorem a0l {α : Type} {p : Prop} [Decidable p] {a b : Acc} {x y r : α} (h : (decide p || Acc.free a b) = true) (h1 : x = r) : br (decide p || Acc.free a b) x y = r := by rw [h]; exact h1
theorem a0a {α : Type} {b : Bool} {x y r : α} (h1 : b = true -> x = r) (h2 : b = false -> y = r) : br b x y = r := by cases b <;> simp_all
def sel (b : Bool) (v : V) : V := if b then v else .tup []
@[go_sem] theorem c7d (b : Bool) (v : V) : (sel b v).a0r = sel b v.a0r := by cases b <;> rfl
@[go_sem] theorem c8M (v : V) : sel true v = v := nrfl rfl
@[go_sem] theorem c7c (v : V) : sel false v = .tup [] := nrfl rfl
theorem a0p {b : Bool} (h : b = true) (v : V) : sel b v = v := by rw [h]; rfl
def a9n {β : Type} (c x y : V) (f : V -> Option β) (_ : Tag f := .mk) : Option β := match c with | .sc (.bool b) => f (if b then x else y) | _ => none
@[go_sem] theorem c5s {β : Type} (x y : V) (f : V -> Option β) : a9n (.sc (.bool true)) x y f = f x := nrfl rfl
@[go_sem] theorem c2R {β : Type} (x y : V) (f : V -> Option β) : a9n (.sc (.bool false)) x y f = f y := nrfl rfl
@[go_sem] theorem c6Q {β : Type} (b c : Bool) (f : V -> Option β) : a9n (.sc (.bool b)) (sel b (.sc (.bool c))) (.sc (.bool false)) f = f (.sc (.bool (b && c))) := by cases b <;> rfl
@[go_sem] theorem c8E {β : Type} (b c : Bool) (f : V -> Option β) : a9n (.sc (.bool b)) (.sc (.bool true)) (sel (!b) (.sc (.bool c))) f = f (.sc (.bool (b || c))) := by cases b <;> rfl
theorem a0f {β : Type} {b : Bool} {x y : V} {f : V -> Option β} {r : Option β} (h : br b (f x) (f y) = r) : a9n (.sc (.bool b)) x y f = r := by cases b <;> exact h
def b8a {β : Type} (v : V) (f : Bool -> Option β) (_ : Tag f := .mk) : Option β := match v with | .sc (.bool b) => f b | _ => none
@[simp, go_sem] theorem c6I {β : Type} (b : Bool) (f : Bool -> Option β) : b8a (.sc (.bool b)) f = f b := nrfl rfl
def a5s {β : Type} (v : V) (f : Bool -> Option β) (g : Option β) (_ : Tag2 f g := .mk) : Option β := match v with | .sc (.bool b) => f b | .tup [] => g | _ => none
@[simp, go_sem] theorem b4J {β : Type} (b : Bool) (f : Bool -> Option β) (g : Option β) : a5s (.sc (.bool b)) f g = f b := nrfl rfl
@[simp, go_sem] theorem c2N {β : Type} (f : Bool -> Option β) (g : Option β) : a5s (.tup []) f g = g := nrfl rfl
theorem a0e {β : Type} {b : Bool} {v : V} {f : Bool -> Option β} {g r : Option β} (h1 : b = true -> a5s v f g = r) (h2 : b = false -> g = r) : a5s (sel b v) f g = r := by
  cases b with
  | true => exact h1 rfl
  | false => exact h2 rfl
def a7v {β : Type} (v : V) (f : IntKind -> Int -> Option β) (_ : Tag f := .mk) : Option β := match v with | .sc (.int k n) => f k n | _ => none
@[simp, go_sem] theorem a7Y {β : Type} (k : IntKind) (n : Int) (f : IntKind -> Int -> Option β) : a7v (.sc (.int k n)) f = f k n := nrfl rfl
def a7w {β : Type} (v : V) (f : Nat -> Nat -> Option β) (g : List C -> Nat -> Option β) (_ : Tag2 f g := .mk) : Option β := match v with | .sc (.ptr p o) => f p o | .sc (.eptr cs o) => g cs o | _ => none
@[simp, go_sem] theorem a6b {β : Type} (p o : Nat) (f : Nat -> Nat -> Option β) (g : List C -> Nat -> Option β) : a7w (.sc (.ptr p o)) f g = f p o := nrfl rfl
@[simp, go_sem] theorem b2k {β : Type} (cs : List C) (o : Nat) (f : Nat -> Nat -> Option β) (g : List C -> Nat -> Option β) : a7w (.sc (.eptr cs o)) f g = g cs o := nrfl rfl
def a8j {β : Type} (o : Option Obj) (f : List C -> Option β) (_ : Tag f := .mk) : Option β := match o with | some (.var cs) => f cs | _ => none
@[simp, go_sem] theorem a5U {β : Type} (cs : List C) (f : List C -> Option β) : a8j (some (.var cs)) f = f cs := nrfl rfl
def a5D {β : Type} (o : Option Obj) (x : Option β) (_ : Tag x := .mk) : Option β := match o with | some .free => x | _ => none
@[simp, go_sem] theorem c6L {β : Type} (x : Option β) : a5D (some .free) x = x := nrfl rfl
def b6I {β : Type} (v : V) (f : List C -> Option β) (_ : Tag f := .mk) : Option β := match v with | .agg cs => f cs | _ => none
@[simp, go_sem] theorem b4I {β : Type} (cs : List C) (f : List C -> Option β) : b6I (.agg cs) f = f cs := nrfl rfl
def c0o {β : Type} (v : V) (f : List V -> Option β) (_ : Tag f := .mk) : Option β := match v with | .tup vs => f vs | _ => none
@[simp, go_sem] theorem b9n {β : Type} (vs : List V) (f : List V -> Option β) : c0o (.tup vs) f = f vs := nrfl rfl
def b0B {β : Type} (es : Nat) (v : V) (f : List (List C) -> Option β) (_ : Tag f := .mk) : Option β := match elems es v with | some l => f l | none => none
@[simp, go_sem] theorem c5n {β : Type} (es : Nat) (k : SK) (l : List (List C)) (f : List (List C) -> Option β) : b0B es (.sc (.sl k es l)) f = f l := by simp [b0B, elems]
@[simp, go_sem] theorem c2M {β : Type} (es : Nat) (l : List (List C)) (f : List (List C) -> Option β) : b0B es (.sc (.own es l)) f = f l := by simp [b0B, elems]
def a8R {β : Type} (es : Nat) (v i : V) (f : Nat -> Nat -> Option β) (g : List C -> Option β) (_ : Tag2 f g := .mk) : Option β :=
  match v with
  | .sc (.msl p off len _ es') => if es' ≠ es then none else match place len i with | some j => f p (off + j * es) | none => none
  | v => match elems es v with
    | some l => match nth l i with | some e => g e | none => none
    | none => none
@[simp, go_sem] theorem c5m {β : Type} (es p off len cap : Nat) (i : Int) (k : IntKind) (f : Nat -> Nat -> Option β) (g : List C -> Option β) :
    a8R es (.sc (.msl p off len cap es)) (.sc (.int k i)) f g = br (decide (0 <= i /\ i < len)) (f p (off + i.toNat * es)) none := by
  simp only [a8R, place, ne_eq, not_true_eq_false, if_false]
  by_cases h : 0 <= i /\ i < len <;> simp [h]
@[simp, go_sem] theorem c6K {β : Type} (es : Nat) (s : SK) (l : List (List C)) (i : Int) (k : IntKind) (f : Nat -> Nat -> Option β) (g : List C -> Option β) :
    a8R es (.sc (.sl s es l)) (.sc (.int k i)) f g = br (decide (0 <= i)) (a0L (l[i.toNat]?) g) none := by
  simp only [a8R, elems, if_true, nth]
  by_cases h : 0 <= i
  . simp only [h, if_true, decide_true, a4R]; cases l[i.toNat]? <;> rfl
  . simp [h]
section
variable {β : Type} (Γ : Env) (s : St) (Q : Ex -> St -> Option β)
@[go_sem] theorem d0k : E Γ .skip s Q = Q .norm s := by unfold E; rw [X_eq]; rfl
@[go_sem] theorem d0T : E Γ .ret s Q = Q .ret s := by unfold E; rw [X_eq]; rfl
@[go_sem] theorem d0i (id : Nat) : E Γ (.exit id) s Q = Q (.exit id) s := by unfold E; rw [X_eq]; rfl
@[go_sem] theorem d0U (a b : AC) : E Γ (.seq a b) s Q = E Γ a s fun e s => match e with | .norm => E Γ b s Q | e => Q e s := by
  unfold E
  rw [X_eq]
  simp only [a0U]
  cases X Γ a s with
  | none => rfl
  | some p => obtain ⟨e, s'⟩ := p; cases e <;> rfl
@[go_sem] theorem d0h (c : Rand) (a b : AC) : E Γ (.cond c a b) s Q = b8a (rd Γ s.t c) fun x => br x (E Γ a s Q) (E Γ b s Q) := by
  unfold E
  rw [X_eq]
  simp only [a0U]
  cases rd Γ s.t c with
  | sc c => cases c with
    | bool x => cases x <;> rfl
    | _ => rfl
  | _ => rfl
@[go_sem] theorem c8W (id : Nat) (a : AC) : E Γ (.block id a) s Q = E Γ a s fun e s => match e with | .exit id' => if id' = id then Q .norm s else Q (.exit id') s | e => Q e s := by
  unfold E
  rw [X_eq]
  simp only [a0U]
  cases X Γ a s with
  | none => rfl
  | some p =>
    obtain ⟨e, s'⟩ := p
    cases e with
    | exit id' => simp only [andThen]; by_cases h : id' = id <;> simp [h]
    | _ => rfl
@[go_sem] theorem d0S (i : Nat) (a : AC) : E Γ (.frz i a) s Q = a0L (frozen i s) fun s => E Γ a s Q := by
  unfold E
  rw [X_eq]
  simp only [a0U]
  cases frozen i s <;> rfl
@[go_sem] theorem d0j (i : Nat) (a : AC) : E Γ (.frzc i a) s Q = a0L (a3G i s) fun s => E Γ a s Q := by
  unfold E
  rw [X_eq]
  simp only [a0U]
  cases a3G i s <;> rfl
@[go_sem] theorem c7H (nal : Nat) (ops : List Oper) (keep : List Nat) : E Γ (.region nal ops false keep) s Q = R Γ s.h.length ops { t := s.t, h := s.h ++ List.replicate nal .free } fun s => Q .norm { t := restrict keep s.t, h := s.h } := by
  unfold E R
  rw [X_eq, ← b6o Γ _ (a9D (f := fun s => Q .norm s))]
  simp only [a0U, region]
  cases steps Γ (K Γ) s.h.length ops { t := s.t, h := s.h ++ List.replicate nal .free } <;> rfl
@[go_sem] theorem c1K (nal : Nat) (ops : List Oper) (keep : List Nat) : E Γ (.region nal ops true keep) s Q = RTs Γ s.h.length ops { t := s.t, h := s.h ++ List.replicate nal .free } [] fun s => Q .norm { t := restrict keep s.t, h := s.h } := by
  unfold E RTs
  rw [X_eq, ← b3z Γ _ (a9D (f := fun s => Q .norm s))]
  simp only [a0U, region]
  cases a3c Γ (K Γ) s.h.length ops ({ t := s.t, h := s.h ++ List.replicate nal .free }, []) <;> rfl
theorem E_of {c : AC} {r : Ex × St} (h : X Γ c s = some r) : E Γ c s Q = Q r.1 r.2 := by unfold E; rw [h]; rfl
end
/-! ### Operations in their order -/
section
variable {β : Type} (Γ : Env) (base : Nat) (os : List Oper) (s : St) (k : St -> Option β) (ix : Nat) (dst : Option Nat) (op : Op) (cf : List Nat) (l : List (Nat × Acc))
@[go_sem] theorem d0X : R Γ base [] s k = k s := nrfl rfl
@[go_sem] theorem d0w : R Γ base (⟨ix, dst, op, none, cf⟩ :: os) s k = P1 Γ base dst op s fun s => R Γ base os s k := nrfl rfl
theorem b5H (g : Nat) (w : Bool) : R Γ base (⟨ix, dst, op, some (g, w), cf⟩ :: os) s k = a5s (get s.t g) (fun b => br b
      (br w (P1 Γ base dst op { t := (g, .sc (.bool true)) :: s.t, h := s.h } fun s => R Γ base os s k) (R Γ base os { t := put1 dst (.tup []) ((g, .sc (.bool true)) :: s.t), h := s.h } k))
      (br w (R Γ base os { t := put1 dst (.tup []) ((g, .sc (.bool false)) :: s.t), h := s.h } k) (P1 Γ base dst op { t := (g, .sc (.bool false)) :: s.t, h := s.h } fun s => R Γ base os s k)))
    (R Γ base os { t := put1 dst (.tup []) s.t, h := s.h } k) := by
  unfold R
  rw [R0]
  simp only
  cases get s.t g with
  | sc c => cases c with
    | bool b => cases b <;> cases w <;> simp
    | _ => rfl
  | agg => rfl
  | tup vs => cases vs <;> rfl
@[go_sem] theorem c7Y (g : Nat) (t : List (Nat × V)) (h : List Obj) : R Γ base (⟨ix, dst, op, some (g, true), cf⟩ :: os) ⟨t, h⟩ k = a5s (get t g) (fun b => br b
      (P1 Γ base dst op { t := (g, .sc (.bool true)) :: t, h := h } fun s => R Γ base os s k) (R Γ base os { t := put1 dst (.tup []) ((g, .sc (.bool false)) :: t), h := h } k))
    (R Γ base os { t := put1 dst (.tup []) t, h := h } k) := b5H ..
@[go_sem] theorem c7X (g : Nat) (t : List (Nat × V)) (h : List Obj) : R Γ base (⟨ix, dst, op, some (g, false), cf⟩ :: os) ⟨t, h⟩ k = a5s (get t g) (fun b => br b
      (R Γ base os { t := put1 dst (.tup []) ((g, .sc (.bool true)) :: t), h := h } k) (P1 Γ base dst op { t := (g, .sc (.bool false)) :: t, h := h } fun s => R Γ base os s k))
    (R Γ base os { t := put1 dst (.tup []) t, h := h } k) := b5H ..
@[go_sem] theorem d0v : RTs Γ base [] s l k = k s := nrfl rfl
@[go_sem] theorem c7V : RTs Γ base (⟨ix, dst, op, none, []⟩ :: os) s l k = P1 Γ base dst op s fun s' => RTs Γ base os s' ((ix, acc base (rd Γ s.t) op) :: l) k := by
  unfold RTs
  rw [RT0]; simp
theorem c0D : RTs Γ base (⟨ix, dst, op, none, cf⟩ :: os) s l k = br (cf.all fun j => l.all fun p => decide (p.1 ≠ j) || Acc.free p.2 (acc base (rd Γ s.t) op)) (P1 Γ base dst op s fun s' => RTs Γ base os s' ((ix, acc base (rd Γ s.t) op) :: l) k) none := by
  unfold RTs
  rw [RT0]
  simp only
  cases cf.all fun j => l.all fun p => decide (p.1 ≠ j) || Acc.free p.2 (acc base (rd Γ s.t) op) <;> rfl
@[go_sem] theorem c7W (c : Nat) (cs : List Nat) : RTs Γ base (⟨ix, dst, op, none, c :: cs⟩ :: os) s l k = br ((c :: cs).all fun j => l.all fun p => decide (p.1 ≠ j) || Acc.free p.2 (acc base (rd Γ s.t) op)) (P1 Γ base dst op s fun s' => RTs Γ base os s' ((ix, acc base (rd Γ s.t) op) :: l) k) none :=
  c0D ..
@[go_sem] theorem c6h (g : Nat) (w : Bool) : RTs Γ base (⟨ix, dst, op, some (g, w), []⟩ :: os) s l k = a5s (get s.t g) (fun b => br b
      (br w (P1 Γ base dst op { t := (g, .sc (.bool true)) :: s.t, h := s.h } fun s' => RTs Γ base os s' ((ix, acc base (rd Γ s.t) op) :: l) k) (RTs Γ base os { t := put1 dst (.tup []) ((g, .sc (.bool true)) :: s.t), h := s.h } l k))
      (br w (RTs Γ base os { t := put1 dst (.tup []) ((g, .sc (.bool false)) :: s.t), h := s.h } l k) (P1 Γ base dst op { t := (g, .sc (.bool false)) :: s.t, h := s.h } fun s' => RTs Γ base os s' ((ix, acc base (rd Γ s.t) op) :: l) k)))
    (RTs Γ base os { t := put1 dst (.tup []) s.t, h := s.h } l k) := by
  unfold RTs
  rw [RT0]
  simp only [List.all_nil, if_true]
  cases get s.t g with
  | sc c => cases c with
    | bool b => cases b <;> cases w <;> simp
    | _ => rfl
  | agg => rfl
  | tup vs => cases vs <;> rfl
@[go_sem] theorem c6i (g : Nat) (w : Bool) (c : Nat) (cs : List Nat) : RTs Γ base (⟨ix, dst, op, some (g, w), c :: cs⟩ :: os) s l k = a5s (get s.t g) (fun b => br (b == w)
      (br ((c :: cs).all fun j => l.all fun p => decide (p.1 ≠ j) || Acc.free p.2 (acc base (rd Γ s.t) op)) (P1 Γ base dst op { t := (g, .sc (.bool w)) :: s.t, h := s.h } fun s' => RTs Γ base os s' ((ix, acc base (rd Γ s.t) op) :: l) k) none)
      (RTs Γ base os { t := put1 dst (.tup []) ((g, .sc (.bool !w)) :: s.t), h := s.h } l k))
    (RTs Γ base os { t := put1 dst (.tup []) s.t, h := s.h } l k) := by
  unfold RTs
  rw [RT0]
  simp only
  cases get s.t g with
  | sc c => cases c with
    | bool b =>
      simp only [b4J]
      generalize (List.all (_ :: _) fun j => l.all fun p => decide (p.1 ≠ j) || Acc.free p.2 (acc base (rd Γ s.t) op)) = z
      cases b <;> cases w <;> cases z <;> simp
    | _ => rfl
  | agg => rfl
  | tup vs => cases vs <;> rfl
end
/-! ### Each operation -/
theorem a1S {h : List Obj} {r : Nat} : a1z h r = true <-> h[r]? = some .free := by
  unfold a1z
  constructor
  . intro e
    split at e
    . assumption
    . cases e
  . intro e; rw [e]
theorem a4C {β : Type} {o : Option Obj} (x : Option β) (h : o ≠ some .free) : a5D o x = none := by
  unfold a5D
  split
  . exact absurd rfl h
  . rfl
section
variable {β : Type} (Γ : Env) (base : Nat) (d : Option Nat) (t : List (Nat × V)) (h : List Obj) (k : St -> Option β)
@[go_sem] theorem d0V (x : Rand) : P1 Γ base d (.mv x) ⟨t, h⟩ k = k ⟨put1 d (rd Γ t x) (drop x.takes t), h⟩ := nrfl rfl
@[go_sem] theorem c9m (c a b : Rand) : P1 Γ base d (.pick c a b) ⟨t, h⟩ k = a9n (rd Γ t c) (rd Γ t a) (rd Γ t b) (fun v => k ⟨put1 d v t, h⟩) := by
  simp only [P1, perform, eff, a9n]
  cases rd Γ t c with
  | sc c => cases c with
    | bool b => cases b <;> rfl
    | _ => rfl
  | _ => rfl
theorem b3U {op : Op} {s : St} : P1 Γ base d op s k = a0L (P1 Γ base d op s some) k := by
  unfold P1
  cases perform (K Γ) base s.h (rd Γ s.t) op <;> rfl
theorem a0k {op : Op} {i g : Nat} {v : V} {b : Bool} {r : Option β} (hv : b = true -> P1 Γ base (some i) op ⟨(g, .sc (.bool true)) :: t, h⟩ some = some ⟨(i, v) :: (g, .sc (.bool true)) :: t, h⟩)
    (hr : k ⟨(i, sel b v) :: (g, .sc (.bool b)) :: t, h⟩ = r) :
    br b (P1 Γ base (some i) op ⟨(g, .sc (.bool true)) :: t, h⟩ k) (k ⟨(i, .tup []) :: (g, .sc (.bool false)) :: t, h⟩) = r := by
  cases b with
  | true => rw [a4R, b3U, hv rfl]; exact hr
  | false => exact hr
theorem a0j {op : Op} {i g : Nat} {v : V} {b : Bool} {r : Option β} (hv : (!b) = true -> P1 Γ base (some i) op ⟨(g, .sc (.bool false)) :: t, h⟩ some = some ⟨(i, v) :: (g, .sc (.bool false)) :: t, h⟩)
    (hr : k ⟨(i, sel (!b) v) :: (g, .sc (.bool b)) :: t, h⟩ = r) :
    br b (k ⟨(i, .tup []) :: (g, .sc (.bool true)) :: t, h⟩) (P1 Γ base (some i) op ⟨(g, .sc (.bool false)) :: t, h⟩ k) = r := by
  cases b with
  | false => rw [a4r, b3U, hv rfl]; exact hr
  | true => exact hr
@[go_sem] theorem c7I (a : Nat) (z : List C) : P1 Γ base d (.alloc a z) ⟨t, h⟩ k = a5D (h[base + a]?) (br (C.a0v z) (k ⟨put1 d (.sc (.ptr (base + a) 0)) t, h.set (base + a) (.var z)⟩) none) := by
  simp only [P1, perform, eff]
  by_cases hf : h[base + a]? = some .free
  . have hi := a1S.2 hf
    rw [hf]
    cases hz : C.a0v z <;> simp [hi] <;> rfl
  . have hi : a1z h (base + a) = false := by cases e : a1z h (base + a) with | false => rfl | true => exact absurd (a1S.1 e) hf
    rw [a4C _ hf]; simp [hi]
@[go_sem] theorem d0o (a : Nat) (x : Rand) : P1 Γ base d (.box a x) ⟨t, h⟩ k = a5D (h[base + a]?) (k ⟨put1 d (.sc (.ptr (base + a) 0)) (drop x.takes t), h.set (base + a) (.var (rd Γ t x).cells)⟩) := by
  simp only [P1, perform, eff]
  by_cases hf : h[base + a]? = some .free
  . have hi := a1S.2 hf
    rw [hf]; simp [hi]; rfl
  . have hi : a1z h (base + a) = false := by cases e : a1z h (base + a) with | false => rfl | true => exact absurd (a1S.1 e) hf
    rw [a4C _ hf]; simp [hi]
@[go_sem] theorem c7J (z : List C) (ps : List (Nat × Nat × Rand)) : P1 Γ base d (.build z ps) ⟨t, h⟩ k = a0L (a3a z (ps.map fun p => (p.1, p.2.1, rd Γ t p.2.2))) fun cs => k ⟨put1 d (.agg cs) t, h⟩ := by
  simp only [P1, perform, eff]
  cases a3a z (ps.map fun p => (p.1, p.2.1, rd Γ t p.2.2)) <;> rfl
@[go_sem] theorem c6b (es n : Nat) (z : List C) (ps : List (Nat × Rand)) : P1 Γ base d (.bslice es n z ps) ⟨t, h⟩ k = a0L (a2c es (List.replicate n z) (ps.map fun p => (p.1, rd Γ t p.2))) fun l =>
    br (decide (z.length = es) && l.all C.a0v) (k ⟨put1 d (.sc (.sl .full es l)) t, h⟩) none := by
  simp only [P1, perform, eff]
  cases a2c es (List.replicate n z) (ps.map fun p => (p.1, rd Γ t p.2)) with
  | none => rfl
  | some l =>
    simp only [a1K]
    by_cases h1 : z.length = es
    . cases h2 : l.all C.a0v <;> simp [h1, h2] <;> rfl
    . simp [h1]
@[go_sem] theorem c9d (a es n : Nat) (z : List C) (ps : List (Nat × Rand)) : P1 Γ base d (.bmsl a es n z ps) ⟨t, h⟩ k = a0L (a2c es (List.replicate n z) (ps.map fun p => (p.1, rd Γ t p.2))) fun l =>
    a5D (h[base + a]?) (br (decide (z.length = es)) (k ⟨put1 d (.sc (.msl (base + a) 0 n n es)) t, h.set (base + a) (.var l.flatten)⟩) none) := by
  simp only [P1, perform, eff]
  cases a2c es (List.replicate n z) (ps.map fun p => (p.1, rd Γ t p.2)) with
  | none => rfl
  | some l =>
    simp only [a1K]
    by_cases hf : h[base + a]? = some .free
    . have hi := a1S.2 hf
      rw [hf]
      by_cases h1 : z.length = es <;> simp [h1, hi] <;> rfl
    . have hi : a1z h (base + a) = false := by cases e : a1z h (base + a) with | false => rfl | true => exact absurd (a1S.1 e) hf
      rw [a4C _ hf]; simp [hi]
@[go_sem] theorem c9k (n : Option Nat) (x : Rand) : P1 Γ base d (.load n x) ⟨t, h⟩ k = a7w (rd Γ t x) (fun p off => a8j (h[p]?) fun cs => a0L (a1t cs off n) fun v => k ⟨put1 d v t, h⟩) (fun cs off => a0L (a1t cs off n) fun v => k ⟨put1 d v t, h⟩) := by
  simp only [P1, perform, eff]
  cases rd Γ t x with
  | sc c => cases c with
    | ptr p off =>
      simp only [a6b]
      cases h[p]? with
      | none => rfl
      | some o => cases o with
        | var cs => simp only [a5U]; cases a1t cs off n <;> rfl
        | _ => rfl
    | eptr cs off => simp only [b2k]; cases a1t cs off n <;> rfl
    | _ => rfl
  | _ => rfl
@[go_sem] theorem c7O (x : Rand) : P1 Γ base d (.loadT x) ⟨t, h⟩ k = a7w (rd Γ t x) (fun p off => a8j (h[p]?) fun cs => a0L (cs[off]?) fun c => k ⟨put1 d (.sc c) t, h.set p (.var (cs.set off (Pm.a0r c)))⟩) (fun _ _ => none) := by
  simp only [P1, perform, eff]
  cases rd Γ t x with
  | sc c => cases c with
    | ptr p off =>
      simp only [a6b]
      cases h[p]? with
      | none => rfl
      | some o => cases o with
        | var cs => simp only [a5U]; cases cs[off]? <;> rfl
        | _ => rfl
    | _ => rfl
  | _ => rfl
@[go_sem] theorem c7U (n : Nat) (x v : Rand) : P1 Γ base d (.store n x v) ⟨t, h⟩ k = a7w (rd Γ t x) (fun p off => a8j (h[p]?) fun cs =>
    br (decide ((rd Γ t v).cells.length = n /\ 0 < n /\ off + n <= cs.length)) (k ⟨put1 d (.tup []) (drop (x.takes ++ v.takes) t), h.set p (.var (a1H cs off (rd Γ t v).cells))⟩) none) (fun _ _ => none) := by
  simp only [P1, perform, eff]
  cases rd Γ t x with
  | sc c => cases c with
    | ptr p off =>
      simp only [a6b]
      cases h[p]? with
      | none => rfl
      | some o => cases o with
        | var cs => simp only [a5U]; by_cases hc : (rd Γ t v).cells.length = n /\ 0 < n /\ off + n <= cs.length <;> simp only [hc, decide_true, decide_false, a4R, a4r, if_true, if_false] <;> rfl
        | _ => rfl
    | _ => rfl
  | _ => rfl
@[go_sem] theorem d0n (op : BinOp) (x y : Rand) : P1 Γ base d (.bin op x y) ⟨t, h⟩ k = a0L (bin op (rd Γ t x) (rd Γ t y)) fun c => k ⟨put1 d (.sc c) t, h⟩ := by
  simp only [P1, perform, eff, one]
  cases bin op (rd Γ t x) (rd Γ t y) <;> rfl
@[go_sem] theorem d0p (neg : Bool) (ty : KT) (x y : Rand) : P1 Γ base d (.eqf neg ty x y) ⟨t, h⟩ k = br (decide ((rd Γ t x).isAgg = ty.agg /\ (rd Γ t y).isAgg = ty.agg)) (a0L (a0c ty.tags (rd Γ t x).cells (rd Γ t y).cells) fun b => k ⟨put1 d (.sc (.bool (neg ^^ b))) t, h⟩) none := by
  simp only [P1, perform, eff]
  by_cases hc : (rd Γ t x).isAgg = ty.agg /\ (rd Γ t y).isAgg = ty.agg
  . simp only [hc, and_self, if_true, decide_true, a4R]; cases a0c ty.tags (rd Γ t x).cells (rd Γ t y).cells <;> rfl
  . simp [hc]
@[go_sem] theorem d0W (op : UnOp) (x : Rand) : P1 Γ base d (.un op x) ⟨t, h⟩ k = a0L (un op (rd Γ t x)) fun c => k ⟨put1 d (.sc c) t, h⟩ := by
  simp only [P1, perform, eff, one]
  cases un op (rd Γ t x) <;> rfl
@[go_sem] theorem c9f (ki : IntKind) (x : Rand) : P1 Γ base d (.conv ki x) ⟨t, h⟩ k = a7v (rd Γ t x) fun _ n => k ⟨put1 d (.sc (.int ki (ki.wrap n))) t, h⟩ := by
  simp only [P1, perform, eff]
  cases rd Γ t x with
  | sc c => cases c <;> rfl
  | _ => rfl
@[go_sem] theorem d0t (id : Nat) (sh : List (Option Nat)) (first cap : List Rand) : P1 Γ base d (.mkf id sh first cap) ⟨t, h⟩ k = br (decide (shapes (first.map (rd Γ t)) = some sh) && decide (shapes (cap.map (rd Γ t)) = some (cap.map fun _ => none)))
    (k ⟨put1 d (.sc (.fn (.fn id) sh ((first.map (rd Γ t)).flatMap V.cells) ((cap.map (rd Γ t)).flatMap V.cells))) t, h⟩) none := by
  simp only [P1, perform, eff]
  by_cases h1 : shapes (first.map (rd Γ t)) = some sh
  . by_cases h2 : shapes (cap.map (rd Γ t)) = some (cap.map fun _ => none) <;> simp [h1, h2] <;> rfl
  . simp [h1]
@[go_sem] theorem c7P (a : Nat) (ka va : Bool) : P1 Γ base d (.mkmap a ka va) ⟨t, h⟩ k = a5D (h[base + a]?) (k ⟨put1 d (.sc (.map (base + a))) t, h.set (base + a) (.map ka va [] none)⟩) := by
  simp only [P1, perform, eff]
  by_cases hf : h[base + a]? = some .free
  . have hi := a1S.2 hf
    rw [hf]; simp [hi]; rfl
  . have hi : a1z h (base + a) = false := by cases e : a1z h (base + a) with | false => rfl | true => exact absurd (a1S.1 e) hf
    rw [a4C _ hf]; simp [hi]
@[go_sem] theorem c7S (es : Nat) (x : Rand) (lo hi mx : Option Rand) : P1 Γ base d (.slice es x lo hi mx) ⟨t, h⟩ k = a0L (sliced es (rd Γ t x) (lo.map (rd Γ t)) (hi.map (rd Γ t)) (mx.map (rd Γ t))) fun c => k ⟨put1 d (.sc c) t, h⟩ := by
  simp only [P1, perform, eff, one]
  cases sliced es (rd Γ t x) (lo.map (rd Γ t)) (hi.map (rd Γ t)) (mx.map (rd Γ t)) <;> rfl
@[go_sem] theorem c7R (n es : Nat) (x : Rand) (lo hi mx : Option Rand) : P1 Γ base d (.slArr n es x lo hi mx) ⟨t, h⟩ k = a0L (a8k n es (rd Γ t x) (lo.map (rd Γ t)) (hi.map (rd Γ t)) (mx.map (rd Γ t))) fun c => k ⟨put1 d (.sc c) t, h⟩ := by
  simp only [P1, perform, eff, one]
  cases a8k n es (rd Γ t x) (lo.map (rd Γ t)) (hi.map (rd Γ t)) (mx.map (rd Γ t)) <;> rfl
@[go_sem] theorem c7K (off : Nat) (x : Rand) : P1 Γ base d (.faddr off x) ⟨t, h⟩ k = a7w (rd Γ t x) (fun p o => k ⟨put1 d (.sc (.ptr p (o + off))) t, h⟩) (fun cs o => k ⟨put1 d (.sc (.eptr cs (o + off))) t, h⟩) := by
  simp only [P1, perform, eff]
  cases rd Γ t x with
  | sc c => cases c <;> rfl
  | _ => rfl
@[go_sem] theorem c7L (off : Nat) (n : Option Nat) (x : Rand) : P1 Γ base d (.field off n x) ⟨t, h⟩ k = b6I (rd Γ t x) fun cs => a0L (a1t cs off n) fun v => k ⟨put1 d v t, h⟩ := by
  simp only [P1, perform, eff]
  cases rd Γ t x with
  | agg cs => simp only [b4I]; cases a1t cs off n <;> rfl
  | _ => rfl
@[go_sem] theorem c7M (es : Nat) (x i : Rand) : P1 Γ base d (.iaddr es x i) ⟨t, h⟩ k = a8R es (rd Γ t x) (rd Γ t i) (fun p o => k ⟨put1 d (.sc (.ptr p o)) t, h⟩) (fun e => k ⟨put1 d (.sc (.eptr e 0)) t, h⟩) := by
  simp only [P1, perform, eff, a8R]
  cases rd Γ t x with
  | sc c => cases c with
    | msl p off len cap es' =>
      simp only
      by_cases hes : es' = es
      . simp only [hes, ne_eq, not_true_eq_false, if_false]; cases place len (rd Γ t i) <;> rfl
      . simp [hes]
    | sl kk es' l => simp only [elems]; by_cases hes : es' = es
                     . simp only [hes, if_true]; cases nth l (rd Γ t i) <;> rfl
                     . simp [hes]
    | own es' l => simp only [elems]; by_cases hes : es' = es
                   . simp only [hes, if_true]; cases nth l (rd Γ t i) <;> rfl
                   . simp [hes]
    | _ => rfl
  | _ => rfl
@[go_sem] theorem c9g (len es : Nat) (x i : Rand) : P1 Γ base d (.iarr len es x i) ⟨t, h⟩ k = a7w (rd Γ t x) (fun p o => a7v (rd Γ t i) fun _ n => br (decide (0 <= n /\ n < len)) (k ⟨put1 d (.sc (.ptr p (o + n.toNat * es))) t, h⟩) none)
    (fun cs o => a7v (rd Γ t i) fun _ n => br (decide (0 <= n /\ n < len)) (k ⟨put1 d (.sc (.eptr cs (o + n.toNat * es))) t, h⟩) none) := by
  simp only [P1, perform, eff]
  cases rd Γ t x with
  | sc c => cases c with
    | ptr p o =>
      simp only [a6b]
      cases rd Γ t i with
      | sc c => cases c with
        | int ki n => simp only [place, a7Y]; by_cases hc : 0 <= n /\ n < len <;> simp [hc] <;> rfl
        | _ => rfl
      | _ => rfl
    | eptr p o =>
      simp only [b2k]
      cases rd Γ t i with
      | sc c => cases c with
        | int ki n => simp only [place, a7Y]; by_cases hc : 0 <= n /\ n < len <;> simp [hc] <;> rfl
        | _ => rfl
      | _ => rfl
    | _ => rfl
  | _ => rfl
@[go_sem] theorem c7N (len es : Nat) (n : Option Nat) (x i : Rand) : P1 Γ base d (.index len es n x i) ⟨t, h⟩ k = b6I (rd Γ t x) fun cs => a7v (rd Γ t i) fun _ j => br (decide (0 <= j /\ j < len)) (a0L (a1t cs (j.toNat * es) n) fun v => k ⟨put1 d v t, h⟩) none := by
  simp only [P1, perform, eff]
  cases rd Γ t x with
  | agg cs =>
    simp only [b4I]
    cases rd Γ t i with
    | sc c => cases c with
      | int ki j =>
        simp only [place, a7Y]
        by_cases hc : 0 <= j /\ j < len
        . simp only [hc, and_self, if_true, decide_true, a4R]; cases a1t cs (j.toNat * es) n <;> rfl
        . simp [hc]
      | _ => rfl
    | _ => rfl
  | _ => rfl
@[go_sem] theorem d0q (x : Rand) (i : Nat) : P1 Γ base d (.ext x i) ⟨t, h⟩ k = c0o (rd Γ t x) fun vs => a0L (vs[i]?) fun v => k ⟨put1 d v t, h⟩ := by
  simp only [P1, perform, eff]
  cases rd Γ t x with
  | tup vs => simp only [b9n]; cases vs[i]? <;> rfl
  | _ => rfl
@[go_sem] theorem c9j (x : Rand) : P1 Γ base d (.len 1 x) ⟨t, h⟩ k = a0L (match rd Γ t x with | .sc (.sl _ _ l) => some (l.length : Int) | .sc (.msl _ _ n _ _) => some (n : Int) | _ => none) fun n => k ⟨put1 d (.sc (.int .i64 n)) t, h⟩ := by
  simp only [P1, perform, eff]
  cases rd Γ t x with
  | sc c => cases c <;> rfl
  | _ => rfl
@[go_sem] theorem c6e (n : Nat) : P1 Γ base d (.lenArr n) ⟨t, h⟩ k = k ⟨put1 d (.sc (.int .i64 n)) t, h⟩ := nrfl rfl
@[go_sem] theorem d0s (x : Rand) (xs : List Rand) : P1 Γ base d (.min x xs) ⟨t, h⟩ k = a7v (rd Γ t x) fun ki n => a0L (minOf ki n (xs.map (rd Γ t))) fun c => k ⟨put1 d (.sc c) t, h⟩ := by
  simp only [P1, perform, eff, one]
  cases rd Γ t x with
  | sc c => cases c with
    | int ki n => simp only [a7Y]; cases minOf ki n (xs.map (rd Γ t)) <;> rfl
    | _ => rfl
  | _ => rfl
@[go_sem] theorem d0r (x : Rand) (xs : List Rand) : P1 Γ base d (.max x xs) ⟨t, h⟩ k = a7v (rd Γ t x) fun ki n => a0L (maxOf ki n (xs.map (rd Γ t))) fun c => k ⟨put1 d (.sc c) t, h⟩ := by
  simp only [P1, perform, eff, one]
  cases rd Γ t x with
  | sc c => cases c with
    | int ki n => simp only [a7Y]; cases maxOf ki n (xs.map (rd Γ t)) <;> rfl
    | _ => rfl
  | _ => rfl
@[go_sem] theorem c6a (es : Nat) (x y : Rand) : P1 Γ base d (.append es x y) ⟨t, h⟩ k = a0L (appended es (rd Γ t x) (rd Γ t y)) fun c => k ⟨put1 d (.sc c) (drop (x.takes ++ y.takes) t), h⟩ := by
  simp only [P1, perform, eff, one]
  cases appended es (rd Γ t x) (rd Γ t y) <;> rfl
@[go_sem] theorem c6g (x : Rand) : P1 Γ base d (.nilchk x) ⟨t, h⟩ k = a0L (match rd Γ t x with | .sc (.ptr p o) => some (V.sc (.ptr p o)) | .sc (.eptr cs o) => some (.sc (.eptr cs o)) | .sc (.fn f sh a b) => some (.sc (.fn f sh a b)) | _ => none) fun v => k ⟨put1 d v t, h⟩ := by
  simp only [P1, perform, eff]
  cases rd Γ t x with
  | sc c => cases c <;> rfl
  | _ => rfl
@[go_sem] theorem c9e (p : Bool) (f : Rand) (args : List Rand) : P1 Γ base d (.call p f args) ⟨t, h⟩ k = a0L (target (rd Γ t f) (args.map (rd Γ t))) fun q =>
    br p (br (q.2.all V.pure) (a0L (K Γ q.1 q.2 []) fun r => a0L (alone h r) fun r => k ⟨put1 d r.1 t, r.2⟩) none) (a0L (K Γ q.1 q.2 h) fun r => k ⟨put1 d r.1 t, r.2⟩) := by
  simp only [P1, perform, calls]
  cases target (rd Γ t f) (args.map (rd Γ t)) with
  | none => rfl
  | some q =>
    obtain ⟨fk, vs⟩ := q
    simp only [a1K]
    cases p with
    | false =>
      simp only [a4r, Bool.false_eq_true, if_false]
      cases K Γ fk vs h <;> rfl
    | true =>
      simp only [a4R, if_true]
      by_cases hv : vs.all V.pure = true
      . rw [if_pos hv, hv]
        simp only [a4R]
        cases K Γ fk vs [] with
        | none => rfl
        | some r => simp only [Option.bind_some, a1K]; cases alone h r <;> rfl
      . rw [if_neg hv]
        have : vs.all V.pure = false := by simpa using hv
        rw [this]; rfl
end
theorem a8x {Γ : Env} {keep : List Nat} {body : AC} {s s' : St} (h : E Γ body s (fun e s1 => match e with | .norm => trim keep s.h.length s1 | _ => none) = some s') : X Γ (.loop keep body) s = X Γ (.loop keep body) s' := by
  unfold E andThen at h
  rw [X_eq]
  simp only [a0U]
  cases hx : X Γ body s with
  | none => rw [hx] at h; cases h
  | some p =>
    obtain ⟨e, s1⟩ := p
    rw [hx] at h
    cases e with
    | norm => simp only at h ⊢; rw [h]
    | _ => simp at h
theorem a5y {Γ : Env} {keep : List Nat} {body : AC} {s : St} {r : Ex × St} (h : E Γ body s (fun e s1 => match e with | .norm => none | e => some (e, s1)) = some r) : X Γ (.loop keep body) s = some r := by
  unfold E andThen at h
  rw [X_eq]
  simp only [a0U]
  cases hx : X Γ body s with
  | none => rw [hx] at h; cases h
  | some p =>
    obtain ⟨e, s1⟩ := p
    rw [hx] at h
    cases e with
    | norm => simp at h
    | exit id => exact h
    | ret => exact h
theorem a1J {β : Type} (Γ : Env) (keep : List Nat) (body : AC) (s : St) (Q : Ex -> St -> Option β) :
    E Γ (.loop keep body) s Q = E Γ body s fun e s1 => match e with | .norm => a0L (trim keep s.h.length s1) fun s' => E Γ (.loop keep body) s' Q | e => Q e s1 := by
  unfold E
  rw [X_eq]
  simp only [a0U]
  cases hx : X Γ body s with
  | none => rfl
  | some p =>
    obtain ⟨e, s1⟩ := p
    cases e with
    | norm => simp only [andThen]; cases trim keep s.h.length s1 <;> rfl
    | _ => rfl
def a4N {σ α ρ : Type} (f : Nat -> σ -> α -> Sum σ ρ) (e : σ -> ρ) : Nat -> σ -> List α -> ρ
  | _, a, [] => e a
  | n, a, x :: l => match f n a x with
    | .inl a => a4N f e (n + 1) a l
    | .inr r => r
theorem b5I {Γ : Env} {σ α : Type} {keep : List Nat} {B : AC} (S : Nat -> σ -> St) (l : List α) (f : Nat -> σ -> α -> Sum σ (Ex × St)) (T : σ -> Ex × St)
    (hstep : ∀ (i : Nat) a x a', l[i]? = some x -> f i a x = .inl a' -> E Γ B (S i a) (fun e s1 => match e with | .norm => trim keep (S i a).h.length s1 | _ => none) = some (S (i + 1) a'))
    (hexit : ∀ (i : Nat) a x r, l[i]? = some x -> f i a x = .inr r -> E Γ B (S i a) (fun e s1 => match e with | .norm => none | e => some (e, s1)) = some r)
    (hend : ∀ a, E Γ B (S l.length a) (fun e s1 => match e with | .norm => none | e => some (e, s1)) = some (T a)) (a : σ) :
    X Γ (.loop keep B) (S 0 a) = some (a4N f T 0 a l) := by
  have main : ∀ (m : List α) (i : Nat) (a : σ), l.drop i = m -> i <= l.length -> X Γ (.loop keep B) (S i a) = some (a4N f T i a m) := by
    intro m
    induction m with
    | nil =>
      intro i a hm hi
      have : l.length <= i := by simpa using hm
      obtain rfl : i = l.length := by omega
      exact a5y (hend a)
    | cons x m ih =>
      intro i a hm hi
      have hx : l[i]? = some x := by
        have := congrArg (fun z => z[0]?) hm
        simpa using this
      have hlt : i < l.length := (List.getElem?_eq_some_iff.1 hx).1
      unfold a4N
      cases hf : f i a x with
      | inl a' =>
        simp only
        rw [a8x (hstep i a x a' hx hf)]
        exact ih (i + 1) a' (by rw [← List.drop_drop, hm]; rfl) hlt
      | inr r => exact a5y (hexit i a x r hx hf)
  exact main l 0 a rfl (Nat.zero_le _)
theorem c1P {Γ : Env} {σ α : Type} {keep : List Nat} {B : AC} (S : Nat -> σ -> St) (l : List α) (f : σ -> α -> σ) (T : σ -> Ex × St)
    (hstep : ∀ (i : Nat) a x, l[i]? = some x -> E Γ B (S i a) (fun e s1 => match e with | .norm => trim keep (S i a).h.length s1 | _ => none) = some (S (i + 1) (f a x)))
    (hend : ∀ a, E Γ B (S l.length a) (fun e s1 => match e with | .norm => none | e => some (e, s1)) = some (T a)) (a : σ) :
    X Γ (.loop keep B) (S 0 a) = some (T (l.foldl f a)) := by
  rw [b5I S l (fun _ a x => .inl (f a x)) T (fun i a x a' hx hf => by cases hf; exact hstep i a x hx) (fun i a x r hx hf => by cases hf) hend a]
  have : ∀ (m : List α) (n : Nat) (a : σ), a4N (fun _ a x => Sum.inl (f a x)) T n a m = T (m.foldl f a) := by
    intro m
    induction m with
    | nil => intro n a; rfl
    | cons x m ih => intro n a; exact ih (n + 1) (f a x)
  rw [this]
theorem b3H {β : Type} {Γ : Env} {c : AC} {s : St} {Q : Ex -> St -> Option β} {r : Ex × St} (h : X Γ c s = some r) : E Γ c s Q = Q r.1 r.2 := E_of Γ s Q h
theorem a6g {β : Type} {Γ : Env} {σ α : Type} {keep : List Nat} {B : AC} (S : Nat -> σ -> St) (l : List α) (f : σ -> α -> σ) (T : σ -> Ex × St) (Q : Ex -> St -> Option β)
    (hstep : ∀ (i : Nat) a x, l[i]? = some x -> E Γ B (S i a) (fun e s1 => match e with | .norm => trim keep (S i a).h.length s1 | _ => none) = some (S (i + 1) (f a x)))
    (hend : ∀ a, E Γ B (S l.length a) (fun e s1 => match e with | .norm => none | e => some (e, s1)) = some (T a)) (a : σ) :
    E Γ (.loop keep B) (S 0 a) Q = Q (T (l.foldl f a)).1 (T (l.foldl f a)).2 := b3H (c1P S l f T hstep hend a)
theorem b5G {β : Type} {Γ : Env} {σ α : Type} {keep : List Nat} {B : AC} (S : Nat -> σ -> St) (l : List α) (f : Nat -> σ -> α -> Sum σ (Ex × St)) (T : σ -> Ex × St) (Q : Ex -> St -> Option β)
    (hstep : ∀ (i : Nat) a x a', l[i]? = some x -> f i a x = .inl a' -> E Γ B (S i a) (fun e s1 => match e with | .norm => trim keep (S i a).h.length s1 | _ => none) = some (S (i + 1) a'))
    (hexit : ∀ (i : Nat) a x r, l[i]? = some x -> f i a x = .inr r -> E Γ B (S i a) (fun e s1 => match e with | .norm => none | e => some (e, s1)) = some r)
    (hend : ∀ a, E Γ B (S l.length a) (fun e s1 => match e with | .norm => none | e => some (e, s1)) = some (T a)) (a : σ) :
    E Γ (.loop keep B) (S 0 a) Q = Q (a4N f T 0 a l).1 (a4N f T 0 a l).2 := b3H (b5I S l f T hstep hexit hend a)
def fin (f : Fn) (n : Nat) (s : St) : Option (V × List Obj) :=
  a0L (results s f.res) fun rs => br f.opn (some (tuple rs, s.h)) (a0L (a4X n s.h rs) fun rs => br ((s.h.take n).all (Obj.under n)) (some (tuple rs, s.h.take n)) none)
theorem K_fn {Γ : Env} {id : Nat} {f : Fn} (hf : Γ.fn id = some f) (vs : List V) (h : List Obj) (hl : vs.length = f.np) :
    K Γ (.fn id) vs h = E Γ f.body { t := number 0 vs, h := h } fun e s => match e with | .exit _ => none | _ => fin f h.length s := by
  rw [K_eq]
  unfold E
  simp only [a3D, hf, hl, ne_eq, not_true_eq_false, if_false]
  have key : ∀ s : St, (match results s f.res with
      | some rs => if f.opn then some (tuple rs, s.h) else match a4X h.length s.h rs with
        | some rs => if (s.h.take h.length).all (Obj.under h.length) then some (tuple rs, s.h.take h.length) else none
        | none => none
      | none => none) = fin f h.length s := fun s => by
    unfold fin
    cases results s f.res with
    | none => rfl
    | some rs =>
      simp only [a1K]
      cases f.opn with
      | true => rfl
      | false =>
        simp only [Bool.false_eq_true, if_false, a4r]
        cases a4X h.length s.h rs with
        | none => rfl
        | some rs => simp only [a1K]; cases (s.h.take h.length).all (Obj.under h.length) <;> rfl
  cases X Γ f.body { t := number 0 vs, h := h } with
  | none => rfl
  | some p =>
    obtain ⟨e, s⟩ := p
    cases e with
    | exit id => rfl
    | norm => exact key s
    | ret => exact key s
@[go_sem] theorem c7w (k : IntKind) (n : Int) : a0r (.int k n) = (.int k n) := nrfl rfl
@[go_sem] theorem c6o (k : IntKind) (n : Int) : V.cells (.sc (.int k n)) = [(.int k n)] := nrfl rfl
@[go_sem] theorem c5y (k : IntKind) (n : Int) (vs : List V) : shapes (.sc (.int k n) :: vs) = (shapes vs).map (none :: ·) := nrfl rfl
@[go_sem] theorem c5S (b : Bool) : a0r (.bool b) = (.bool b) := nrfl rfl
@[go_sem] theorem c3w (b : Bool) : V.cells (.sc (.bool b)) = [(.bool b)] := nrfl rfl
@[go_sem] theorem c2V (b : Bool) (vs : List V) : shapes (.sc (.bool b) :: vs) = (shapes vs).map (none :: ·) := nrfl rfl
@[go_sem] theorem c7B (s : ByteArray) : a0r (.str s) = (.str s) := nrfl rfl
@[go_sem] theorem c6t (s : ByteArray) : V.cells (.sc (.str s)) = [(.str s)] := nrfl rfl
@[go_sem] theorem c5E (s : ByteArray) (vs : List V) : shapes (.sc (.str s) :: vs) = (shapes vs).map (none :: ·) := nrfl rfl
@[go_sem] theorem c8S (k : SK) (es : Nat) (l : List (List C)) : a0r (.sl k es l) = (.sl k es l) := nrfl rfl
@[go_sem] theorem c8b (k : SK) (es : Nat) (l : List (List C)) : V.cells (.sc (.sl k es l)) = [(.sl k es l)] := nrfl rfl
@[go_sem] theorem c7f (k : SK) (es : Nat) (l : List (List C)) (vs : List V) : shapes (.sc (.sl k es l) :: vs) = (shapes vs).map (none :: ·) := nrfl rfl
@[go_sem] theorem c5V (ka va : Bool) (l : List (List C × List C)) : a0r (.imap ka va l) = (.imap ka va l) := nrfl rfl
@[go_sem] theorem c3y (ka va : Bool) (l : List (List C × List C)) : V.cells (.sc (.imap ka va l)) = [(.imap ka va l)] := nrfl rfl
@[go_sem] theorem c2X (ka va : Bool) (l : List (List C × List C)) (vs : List V) : shapes (.sc (.imap ka va l) :: vs) = (shapes vs).map (none :: ·) := nrfl rfl
@[go_sem] theorem c5T (cs : List C) (off : Nat) : a0r (.eptr cs off) = (.eptr cs off) := nrfl rfl
@[go_sem] theorem c3x (cs : List C) (off : Nat) : V.cells (.sc (.eptr cs off)) = [(.eptr cs off)] := nrfl rfl
@[go_sem] theorem c2W (cs : List C) (off : Nat) (vs : List V) : shapes (.sc (.eptr cs off) :: vs) = (shapes vs).map (none :: ·) := nrfl rfl
@[go_sem] theorem c8R (f : Fk) (sh : List (Option Nat)) (first cap : List C) : a0r (.fn f sh first cap) = (.fn f sh first cap) := nrfl rfl
@[go_sem] theorem c8a (f : Fk) (sh : List (Option Nat)) (first cap : List C) : V.cells (.sc (.fn f sh first cap)) = [(.fn f sh first cap)] := nrfl rfl
@[go_sem] theorem c7e (f : Fk) (sh : List (Option Nat)) (first cap : List C) (vs : List V) : shapes (.sc (.fn f sh first cap) :: vs) = (shapes vs).map (none :: ·) := nrfl rfl
@[go_sem] theorem c5W  : a0r .nilf = .nilf := nrfl rfl
@[go_sem] theorem c3A  : V.cells (.sc .nilf) = [.nilf] := nrfl rfl
@[go_sem] theorem c2Z  (vs : List V) : shapes (.sc .nilf :: vs) = (shapes vs).map (none :: ·) := nrfl rfl
@[go_sem] theorem c5Y  : a0r .nilp = .nilp := nrfl rfl
@[go_sem] theorem c3C  : V.cells (.sc .nilp) = [.nilp] := nrfl rfl
@[go_sem] theorem c3b  (vs : List V) : shapes (.sc .nilp :: vs) = (shapes vs).map (none :: ·) := nrfl rfl
@[go_sem] theorem c5X  : a0r .nili = .nili := nrfl rfl
@[go_sem] theorem c3B  : V.cells (.sc .nili) = [.nili] := nrfl rfl
@[go_sem] theorem c3a  (vs : List V) : shapes (.sc .nili :: vs) = (shapes vs).map (none :: ·) := nrfl rfl
@[go_sem] theorem c7A (r off : Nat) : a0r (.ptr r off) = (.ptr r off) := nrfl rfl
@[go_sem] theorem c6s (r off : Nat) : V.cells (.sc (.ptr r off)) = [(.ptr r off)] := nrfl rfl
@[go_sem] theorem c5C (r off : Nat) (vs : List V) : shapes (.sc (.ptr r off) :: vs) = (shapes vs).map (none :: ·) := nrfl rfl
@[go_sem] theorem c7x (r : Nat) : a0r (.map r) = (.map r) := nrfl rfl
@[go_sem] theorem c6p (r : Nat) : V.cells (.sc (.map r)) = [(.map r)] := nrfl rfl
@[go_sem] theorem c5z (r : Nat) (vs : List V) : shapes (.sc (.map r) :: vs) = (shapes vs).map (none :: ·) := nrfl rfl
@[go_sem] theorem c7y (r off len cap es : Nat) : a0r (.msl r off len cap es) = (.msl r off len cap es) := nrfl rfl
@[go_sem] theorem c6q (r off len cap es : Nat) : V.cells (.sc (.msl r off len cap es)) = [(.msl r off len cap es)] := nrfl rfl
@[go_sem] theorem c5A (r off len cap es : Nat) (vs : List V) : shapes (.sc (.msl r off len cap es) :: vs) = (shapes vs).map (none :: ·) := nrfl rfl
@[go_sem] theorem c3h (r i : Nat) : a0r (.stamp r i) = (.stamp r i) := nrfl rfl
@[go_sem] theorem c2G (r i : Nat) : V.cells (.sc (.stamp r i)) = [(.stamp r i)] := nrfl rfl
@[go_sem] theorem c2t (r i : Nat) (vs : List V) : shapes (.sc (.stamp r i) :: vs) = (shapes vs).map (none :: ·) := nrfl rfl
@[go_sem] theorem c7z (es : Nat) (l : List (List C)) : a0r (.own es l) = .sl .shared es l := nrfl rfl
@[go_sem] theorem c6r (es : Nat) (l : List (List C)) : V.cells (.sc (.own es l)) = [.own es l] := nrfl rfl
@[go_sem] theorem c9E (k : IntKind) (m : Int) (b' : Nat) (h : List Obj) (n : Nat) : frz b' h (n + 1) (.int k m) = some (.int k m) := nrfl rfl
@[go_sem] theorem c8F (k : IntKind) (n : Int) : C.pure (.int k n) = true := nrfl rfl
@[go_sem] theorem c7o (k : IntKind) (n : Int) (m : Nat) : C.under m (.int k n) = true := nrfl rfl
@[go_sem] theorem c8k (b : Bool) (b' : Nat) (h : List Obj) (n : Nat) : frz b' h (n + 1) (.bool b) = some (.bool b) := nrfl rfl
@[go_sem] theorem c6S (b : Bool) : C.pure (.bool b) = true := nrfl rfl
@[go_sem] theorem c5I (b : Bool) (m : Nat) : C.under m (.bool b) = true := nrfl rfl
@[go_sem] theorem c9J (s : ByteArray) (b' : Nat) (h : List Obj) (n : Nat) : frz b' h (n + 1) (.str s) = some (.str s) := nrfl rfl
@[go_sem] theorem c8K (s : ByteArray) : C.pure (.str s) = true := nrfl rfl
@[go_sem] theorem c7u (s : ByteArray) (m : Nat) : C.under m (.str s) = true := nrfl rfl
@[go_sem] theorem d0A (k : SK) (es : Nat) (l : List (List C)) (b' : Nat) (h : List Obj) (n : Nat) : frz b' h (n + 1) (.sl k es l) = some (.sl k es l) := nrfl rfl
@[go_sem] theorem c9T (k : SK) (es : Nat) (l : List (List C)) : C.pure (.sl k es l) = true := nrfl rfl
@[go_sem] theorem c8Q (k : SK) (es : Nat) (l : List (List C)) (m : Nat) : C.under m (.sl k es l) = true := nrfl rfl
@[go_sem] theorem c8m (ka va : Bool) (l : List (List C × List C)) (b' : Nat) (h : List Obj) (n : Nat) : frz b' h (n + 1) (.imap ka va l) = some (.imap ka va l) := nrfl rfl
@[go_sem] theorem c6U (ka va : Bool) (l : List (List C × List C)) : C.pure (.imap ka va l) = true := nrfl rfl
@[go_sem] theorem c5K (ka va : Bool) (l : List (List C × List C)) (m : Nat) : C.under m (.imap ka va l) = true := nrfl rfl
@[go_sem] theorem c8l (cs : List C) (off : Nat) (b' : Nat) (h : List Obj) (n : Nat) : frz b' h (n + 1) (.eptr cs off) = some (.eptr cs off) := nrfl rfl
@[go_sem] theorem c6T (cs : List C) (off : Nat) : C.pure (.eptr cs off) = true := nrfl rfl
@[go_sem] theorem c5J (cs : List C) (off : Nat) (m : Nat) : C.under m (.eptr cs off) = true := nrfl rfl
@[go_sem] theorem c8o  (b' : Nat) (h : List Obj) (n : Nat) : frz b' h (n + 1) .nilf = some .nilf := nrfl rfl
@[go_sem] theorem c6V  : C.pure .nilf = true := nrfl rfl
@[go_sem] theorem c5N  (m : Nat) : C.under m .nilf = true := nrfl rfl
@[go_sem] theorem c8q  (b' : Nat) (h : List Obj) (n : Nat) : frz b' h (n + 1) .nilp = some .nilp := nrfl rfl
@[go_sem] theorem c6X  : C.pure .nilp = true := nrfl rfl
@[go_sem] theorem c5P  (m : Nat) : C.under m .nilp = true := nrfl rfl
@[go_sem] theorem c8p  (b' : Nat) (h : List Obj) (n : Nat) : frz b' h (n + 1) .nili = some .nili := nrfl rfl
@[go_sem] theorem c6W  : C.pure .nili = true := nrfl rfl
@[go_sem] theorem c5O  (m : Nat) : C.under m .nili = true := nrfl rfl
@[go_sem] theorem c9H (b : Nat) (h : List Obj) (n es : Nat) (l : List (List C)) : frz b h (n + 1) (.own es l) = some (.sl .shared es l) := nrfl rfl
@[go_sem] theorem c9I (b : Nat) (h : List Obj) (n r off : Nat) : frz b h (n + 1) (.ptr r off) = br (decide (r < b)) (some (.ptr r off)) (a8j (h[r]?) fun cs => a0L (frzL b h n cs) fun cs => br (C.a0v cs) (some (.eptr cs off)) none) := by
  simp only [frz]
  by_cases hc : r < b
  . simp [hc]
  . simp only [hc, if_false, decide_false, a4r]
    cases h[r]? with
    | none => rfl
    | some o => cases o with
      | var cs => simp only [a5U]; cases frzL b h n cs with
                  | none => rfl
                  | some cs => simp only [a1K]; cases C.a0v cs <;> rfl
      | _ => rfl
@[go_sem] theorem c9F (b : Nat) (h : List Obj) (n r : Nat) : frz b h (n + 1) (.map r) = br (decide (r < b)) (some (.map r)) (match h[r]? with | some (.map ka va l none) => some (.imap ka va l) | some (.set n f) => some (.iset n f) | _ => none) := by
  simp only [frz]
  by_cases hc : r < b
  . simp [hc]
  . simp only [hc, if_false, decide_false, a4r]; rfl
@[go_sem] theorem c9G (b : Nat) (h : List Obj) (n r off len cap es : Nat) : frz b h (n + 1) (.msl r off len cap es) = br (decide (r < b)) (some (.msl r off len cap es)) (a8j (h[r]?) fun cs => a0L (frzL b h n cs) fun cs => br (C.a0v cs) ((chunks cs off es len).map fun l => .sl (if cap = len /\ cap ≠ 0 then .full else .shared) es l) none) := by
  simp only [frz]
  by_cases hc : r < b
  . simp [hc]
  . simp only [hc, if_false, decide_false, a4r]
    cases h[r]? with
    | none => rfl
    | some o => cases o with
      | var cs => simp only [a5U]; cases frzL b h n cs with
                  | none => rfl
                  | some cs => simp only [a1K]; cases C.a0v cs <;> rfl
      | _ => rfl
@[go_sem] theorem d0z (b : Nat) (h : List Obj) (n id : Nat) (sh : List (Option Nat)) (first cap : List C) : frz b h (n + 1) (.fn (.fn id) sh first cap) = a0L (frzL b h n first) fun a => a0L (frzL b h n cap) fun d => some (.fn (.fn id) sh a d) := by
  simp only [frz]
  cases frzL b h n first with
  | none => rfl
  | some a => simp only [a1K]; cases frzL b h n cap <;> rfl
@[go_sem] theorem c8i (b : Nat) (h : List Obj) (n : Nat) : frzL b h (n + 1) [] = some [] := by simp [frzL]
@[go_sem] theorem c6x (b : Nat) (h : List Obj) (n : Nat) (c : C) (cs : List C) : frzL b h (n + 1) (c :: cs) = a0L (frz b h n c) fun c => a0L (frzL b h n cs) fun cs => some (c :: cs) := by
  simp only [frzL]
  cases frz b h n c with
  | none => rfl
  | some c => simp only [a1K]; cases frzL b h n cs <;> rfl
@[go_sem] theorem c9D (b : Nat) (h : List Obj) (c : C) : frzV b h (.sc c) = (frz b h 64 c).map .sc := nrfl rfl
@[go_sem] theorem c8j (b : Nat) (h : List Obj) (cs : List C) : frzV b h (.agg cs) = (frzL b h 128 cs).map .agg := nrfl rfl
@[go_sem] theorem c6y (b : Nat) (h : List Obj) : a4X b h [] = some [] := nrfl rfl
@[go_sem] theorem c3I (b : Nat) (h : List Obj) (v : V) (vs : List V) : a4X b h (v :: vs) = a0L (frzV b h v) fun v => a0L (a4X b h vs) fun vs => some (v :: vs) := by
  simp only [a4X]
  cases frzV b h v with
  | none => rfl
  | some v => simp only [a1K]; cases a4X b h vs <;> rfl
@[go_sem] theorem c8J (r off : Nat) : C.pure (.ptr r off) = false := nrfl rfl
@[go_sem] theorem c8G (r : Nat) : C.pure (.map r) = false := nrfl rfl
@[go_sem] theorem c8H (r off len cap es : Nat) : C.pure (.msl r off len cap es) = false := nrfl rfl
@[go_sem] theorem c8I (es : Nat) (l : List (List C)) : C.pure (.own es l) = false := nrfl rfl
@[go_sem] theorem c9S (id : Nat) (sh : List (Option Nat)) (first cap : List C) : C.pure (.fn (.fn id) sh first cap) = (C.a0v first && C.a0v cap) := by simp [C.pure]
@[go_sem] theorem c7s (m r off : Nat) : C.under m (.ptr r off) = decide (r < m) := nrfl rfl
@[go_sem] theorem c7p (m r : Nat) : C.under m (.map r) = decide (r < m) := nrfl rfl
@[go_sem] theorem c7q (m r off len cap es : Nat) : C.under m (.msl r off len cap es) = decide (r < m) := nrfl rfl
@[go_sem] theorem c7r (m es : Nat) (l : List (List C)) : C.under m (.own es l) = true := nrfl rfl
@[go_sem] theorem c7v (m : Nat) : C.under m .top = true := nrfl rfl
@[go_sem] theorem c8P (m id : Nat) (sh : List (Option Nat)) (first cap : List C) : C.under m (.fn (.fn id) sh first cap) = (C.a0G m first && C.a0G m cap) := by simp [C.under]
@[go_sem] theorem c3e (m l : Nat) (sh : List (Option Nat)) (first cap : List C) : C.under m (.fn (.yield l) sh first cap) = (decide (l < m) && C.a0G m first && C.a0G m cap) := by simp [C.under]
@[go_sem] theorem c5H (m : Nat) : C.a0G m [] = true := nrfl rfl
@[go_sem] theorem c3c (m : Nat) (c : C) (cs : List C) : C.a0G m (c :: cs) = (C.under m c && C.a0G m cs) := nrfl rfl
@[go_sem] theorem c6R : C.a0v [] = true := nrfl rfl
@[go_sem] theorem c5u (c : C) (cs : List C) : C.a0v (c :: cs) = (C.pure c && C.a0v cs) := nrfl rfl
@[go_sem] theorem c7Z (c : C) : V.pure (.sc c) = c.pure := nrfl rfl
@[go_sem] theorem c6j (cs : List C) : V.pure (.agg cs) = C.a0v cs := nrfl rfl
@[go_sem] theorem c6k (m : Nat) (c : C) : V.under m (.sc c) = c.under m := by simp [V.under]
@[go_sem] theorem c3r (m : Nat) (cs : List C) : V.under m (.agg cs) = C.a0G m cs := by simp [V.under]
@[go_sem] theorem c3s (m : Nat) (vs : List V) : V.under m (.tup vs) = V.a2I m vs := by simp [V.under]
@[go_sem] theorem c2F (m : Nat) : V.a2I m [] = true := by simp [V.a2I]
@[go_sem] theorem c1O (m : Nat) (v : V) (vs : List V) : V.a2I m (v :: vs) = (v.under m && V.a2I m vs) := by simp [V.a2I]
@[go_sem] theorem c3p (m : Nat) (cs : List C) : Obj.under m (.var cs) = C.a0G m cs := nrfl rfl
@[go_sem] theorem c2B (m : Nat) : Obj.under m .dead = true := nrfl rfl
@[go_sem] theorem c2C (m : Nat) : Obj.under m .free = true := nrfl rfl
@[go_sem] theorem c3o (m : Nat) (ka va : Bool) (l : List (List C × List C)) (ph : Option (List C × List C)) : Obj.under m (.map ka va l ph) = true := nrfl rfl
@[go_sem] theorem c2E (m : Nat) (st : LS) (pend : Option Ex) (t : List (Nat × V)) (ps : List Nat) (a b : AC) : Obj.under m (.loop st pend t ps a b) = t.all fun p => p.2.under m := nrfl rfl
@[go_sem] theorem c6l (c : C) : V.a0r (.sc c) = .sc (a0r c) := nrfl rfl
@[go_sem] theorem c3t (cs : List C) : V.a0r (.agg cs) = .agg cs := nrfl rfl
@[go_sem] theorem c3u (vs : List V) : V.a0r (.tup vs) = .tup vs := nrfl rfl
@[go_sem] theorem c6n (cs : List C) : V.cells (.agg cs) = cs := nrfl rfl
@[go_sem] theorem c8s (c : C) : V.isAgg (.sc c) = false := nrfl rfl
@[go_sem] theorem c6z (cs : List C) : V.isAgg (.agg cs) = true := nrfl rfl
@[go_sem] theorem c5B : shapes [] = some [] := nrfl rfl
@[go_sem] theorem c5x (cs : List C) (vs : List V) : shapes (.agg cs :: vs) = (shapes vs).map (some cs.length :: ·) := nrfl rfl
section
variable (Γ : Env) (t : List (Nat × V)) (i j : Nat) (v : V) (h : List Obj)
@[go_sem] theorem rd_t : rd Γ t (.t i) = (get t i).a0r := nrfl rfl
@[go_sem] theorem d1f : rd Γ t (.tk i) = get t i := nrfl rfl
@[go_sem] theorem rd_k : rd Γ t (.k v) = v := nrfl rfl
@[go_sem] theorem rd_f : rd Γ t (.f i) = .sc (.fn (.fn i) [] [] []) := nrfl rfl
@[go_sem] theorem rd_g : rd Γ t (.g i) = .sc (.eptr (Γ.glob i) 0) := nrfl rfl
@[go_sem] theorem c8r : get ((j, v) :: t) i = if j = i then v else get t i := nrfl rfl
@[go_sem] theorem c6Z : put1 (some i) v t = (i, v) :: t := nrfl rfl
@[go_sem] theorem c6Y : put1 none v t = t := nrfl rfl
@[go_sem] theorem c6v : Pm.drop [] t = t := nrfl rfl
@[go_sem] theorem drop_cons (l : List Nat) : Pm.drop (i :: l) t = Pm.drop l ((i, (get t i).a0r) :: t) := nrfl rfl
@[go_sem] theorem c9Y : Rand.takes (.t i) = [] := nrfl rfl
@[go_sem] theorem c8O : Rand.takes (.tk i) = [i] := nrfl rfl
@[go_sem] theorem c9X : Rand.takes (.k v) = [] := nrfl rfl
@[go_sem] theorem c9V : Rand.takes (.f i) = [] := nrfl rfl
@[go_sem] theorem c9W : Rand.takes (.g i) = [] := nrfl rfl
@[go_sem] theorem c2p : restrict [] t = [] := nrfl rfl
@[go_sem] theorem c1G (l : List Nat) : restrict (i :: l) t = (i, get t i) :: restrict l t := nrfl rfl
@[go_sem] theorem c3S : number i [] = [] := nrfl rfl
@[go_sem] theorem c2K (vs : List V) : number i (v :: vs) = (i, v) :: number (i + 1) vs := nrfl rfl
@[go_sem] theorem c2S : results ⟨t, h⟩ [] = some [] := nrfl rfl
@[go_sem] theorem c1H (ps : List (Nat × Option (Option Nat))) : results ⟨t, h⟩ ((i, none) :: ps) = a0L (results ⟨t, h⟩ ps) fun vs => some ((get t i).a0r :: vs) := by
  simp only [results, a7K]
  cases results ⟨t, h⟩ ps <;> rfl
@[go_sem] theorem c1I (n : Option Nat) (ps : List (Nat × Option (Option Nat))) : results ⟨t, h⟩ ((i, some n) :: ps) = a7w (get t i) (fun r off => a8j (h[r]?) fun cs => a0L (a1t cs off n) fun v => a0L (results ⟨t, h⟩ ps) fun vs => some (v :: vs)) (fun _ _ => none) := by
  simp only [results, a7K]
  cases get t i with
  | sc c => cases c with
    | ptr r off =>
      simp only [a6b]
      cases h[r]? with
      | none => rfl
      | some o => cases o with
        | var cs => simp only [a5U]; cases a1t cs off n with
                    | none => rfl
                    | some v => simp only [a1K]; cases results ⟨t, h⟩ ps <;> rfl
        | _ => rfl
    | _ => rfl
  | _ => rfl
@[go_sem] theorem c7m : tuple [v] = v := nrfl rfl
@[go_sem] theorem c7l : tuple [] = .tup [] := nrfl rfl
@[go_sem] theorem c7n (a b : V) (l : List V) : tuple (a :: b :: l) = .tup (a :: b :: l) := nrfl rfl
@[go_sem] theorem c6w : frozen i ⟨t, h⟩ = a7w (get t i) (fun r off => a8j (h[r]?) fun cs => br (C.a0v (cs.map a0r)) (some ⟨(i, .sc (.eptr (cs.map a0r) off)) :: t, h.set r .dead⟩) none) (fun _ _ => none) := by
  simp only [frozen]
  cases get t i with
  | sc c => cases c with
    | ptr r off =>
      simp only [a6b]
      cases h[r]? with
      | none => rfl
      | some o => cases o with
        | var cs => simp only [a5U]; cases C.a0v (cs.map a0r) <;> rfl
        | _ => rfl
    | _ => rfl
  | _ => rfl
@[go_sem] theorem d0a (keep : List Nat) (n : Nat) : trim keep n ⟨t, h⟩ = br ((restrict keep t).all (fun p => p.2.under n) && (h.take n).all (Obj.under n)) (some ⟨restrict keep t, h.take n⟩) none := by
  simp only [trim]
  cases (restrict keep t).all (fun p => p.2.under n) <;> cases (h.take n).all (Obj.under n) <;> simp [br]
end
section
variable (k : IntKind) (x y : Int)
@[go_sem] theorem c9o : bin .add (.sc (.int k x)) (.sc (.int k y)) = some (.int k (k.wrap (x + y))) := by simp [bin, arith]
@[go_sem] theorem c9B : bin .sub (.sc (.int k x)) (.sc (.int k y)) = some (.int k (k.wrap (x - y))) := by simp [bin, arith]
@[go_sem] theorem c9v : bin .mul (.sc (.int k x)) (.sc (.int k y)) = some (.int k (k.wrap (x * y))) := by simp [bin, arith]
@[go_sem] theorem c9x : bin .quo (.sc (.int k x)) (.sc (.int k y)) = br (decide (y = 0)) none (some (.int k (k.wrap (x.tdiv y)))) := by
  by_cases h : y = 0 <;> simp [bin, arith, h]
@[go_sem] theorem c9y : bin .rem (.sc (.int k x)) (.sc (.int k y)) = br (decide (y = 0)) none (some (.int k (x.tmod y))) := by
  by_cases h : y = 0 <;> simp [bin, arith, h]
@[go_sem] theorem c9q : bin .eql (.sc (.int k x)) (.sc (.int k y)) = some (.bool (decide (x = y))) := by simp [bin, arith, BEq.beq]
@[go_sem] theorem c9w : bin .neq (.sc (.int k x)) (.sc (.int k y)) = some (.bool (!decide (x = y))) := by simp [bin, arith, bne, BEq.beq]
@[go_sem] theorem c9u : bin .lss (.sc (.int k x)) (.sc (.int k y)) = some (.bool (decide (x < y))) := by simp [bin, arith]
@[go_sem] theorem c9t : bin .leq (.sc (.int k x)) (.sc (.int k y)) = some (.bool (decide (x <= y))) := by simp [bin, arith]
@[go_sem] theorem c9s : bin .gtr (.sc (.int k x)) (.sc (.int k y)) = some (.bool (decide (y < x))) := by simp [bin, arith]
@[go_sem] theorem c9r : bin .geq (.sc (.int k x)) (.sc (.int k y)) = some (.bool (decide (y <= x))) := by simp [bin, arith]
@[go_sem] theorem d0F : un .neg (.sc (.int k x)) = some (.int k (k.wrap (0 - x))) := nrfl rfl
@[go_sem] theorem d0G (b : Bool) : un .not (.sc (.bool b)) = some (.bool !b) := nrfl rfl
end
@[go_sem] theorem c1E (cs : List C) (off : Nat) : a1t cs off none = a0L (cs[off]?) fun c => some (.sc (a0r c)) := by
  simp only [a1t]; cases cs[off]? <;> rfl
@[go_sem] theorem c1F (cs : List C) (off n : Nat) : a1t cs off (some n) = a0L (a0R cs off n) fun l => some (.agg (l.map a0r)) := by
  simp only [a1t]; cases a0R cs off n <;> rfl
@[go_sem] theorem c1V (cs : List C) (off : Nat) : a0R cs off 0 = some [] := nrfl rfl
theorem a7O (cs : List C) (off n : Nat) : a0R cs off (n + 1) = a0L (cs[off]?) fun c => a0L (a0R cs (off + 1) n) fun l => some (c :: l) := by
  simp only [a0R]
  cases cs[off]? with
  | none => rfl
  | some c => simp only [a1K]; cases a0R cs (off + 1) n <;> rfl
@[go_sem] theorem a9P (c : C) (cs : List C) : ∀ (n k : Nat), a0R (c :: cs) (k + 1) n = a0R cs k n
  | 0, _ => rfl
  | n + 1, k => by rw [a7O, a7O, a9P c cs n (k + 1), List.getElem?_cons_succ]
@[go_sem] theorem c1T (c : C) (cs : List C) (n : Nat) : a0R (c :: cs) 0 (n + 1) = a0L (a0R cs 0 n) fun l => some (c :: l) := by
  rw [a7O, List.getElem?_cons_zero, a1K, a9P]
@[go_sem] theorem c5w (cs : List C) (off : Nat) : a1H cs off [] = cs := nrfl rfl
@[go_sem] theorem c2T (cs : List C) (off : Nat) (v : C) (vs : List C) : a1H cs off (v :: vs) = a1H (cs.set off v) (off + 1) vs := nrfl rfl
@[go_sem] theorem c1B (z : List C) : a3a z [] = some z := nrfl rfl
@[go_sem] theorem c0N (z : List C) (off n : Nat) (v : V) (r : List (Nat × Nat × V)) : a3a z ((off, n, v) :: r) = br (decide (v.cells.length = n /\ 0 < n /\ off + n <= z.length)) (a3a (a1H z off v.cells) r) none := by
  simp only [a3a]
  by_cases h : v.cells.length = n /\ 0 < n /\ off + n <= z.length <;> simp [h]
@[go_sem] theorem c1C (es : Nat) (l : List (List C)) : a2c es l [] = some l := nrfl rfl
@[go_sem] theorem c0O (es : Nat) (l : List (List C)) (i : Nat) (v : V) (r : List (Nat × V)) : a2c es l ((i, v) :: r) = br (decide (v.cells.length = es /\ i < l.length)) (a2c es (l.set i v.cells) r) none := by
  simp only [a2c]
  by_cases h : v.cells.length = es /\ i < l.length <;> simp [h]
@[go_sem] theorem c7k (id : Nat) (sh : List (Option Nat)) (first cap : List C) (args : List V) : target (.sc (.fn (.fn id) sh first cap)) args = a0L (a2F sh first) fun fs => some (.fn id, fs ++ args ++ cap.map .sc) := by
  simp only [target]; cases a2F sh first <;> rfl
@[go_sem] theorem c2x (l : Nat) (sh : List (Option Nat)) (first cap : List C) (args : List V) : target (.sc (.fn (.yield l) sh first cap)) args = some (.yield l, args) := nrfl rfl
@[go_sem] theorem c5R : a2F [] [] = some [] := nrfl rfl
@[go_sem] theorem c3f (sh : List (Option Nat)) (c : C) (cs : List C) : a2F (none :: sh) (c :: cs) = a0L (a2F sh cs) fun l => some (.sc c :: l) := by
  simp only [a2F]; cases a2F sh cs <;> rfl
@[go_sem] theorem c3g (n : Nat) (sh : List (Option Nat)) (cs : List C) : a2F (some n :: sh) cs = br (decide (n <= cs.length)) (a0L (a2F sh (cs.drop n)) fun l => some (.agg (cs.take n) :: l)) none := by
  simp only [a2F]
  by_cases h : n <= cs.length
  . simp only [h, if_true, decide_true, a4R]; cases a2F sh (cs.drop n) <;> rfl
  . simp [h]
@[go_sem] theorem c6m (h : List Obj) (v : V) : alone h (v, []) = some (v, h) := nrfl rfl
@[go_sem] theorem c6D : a0c [] [] [] = some true := nrfl rfl
@[go_sem] theorem c2J (t : Nat) (ts : List Nat) (c d : C) (cs ds : List C) : a0c (t :: ts) (c :: cs) (d :: ds) = a0L (a0g t c d) fun a => a0L (a0c ts cs ds) fun b => some (a && b) := by
  simp only [a0c]
  cases a0g t c d with
  | none => rfl
  | some a => simp only [a1K]; cases a0c ts cs ds <;> rfl
@[go_sem] theorem c5F (a b : Bool) : a0g 0 (.bool a) (.bool b) = some (a == b) := nrfl rfl
@[go_sem] theorem c7i (k : IntKind) (a b : Int) : a0g 1 (.int k a) (.int k b) = some (decide (a = b)) := by simp [a0g, BEq.beq]
@[go_sem] theorem c7j (a b : ByteArray) : a0g 2 (.str a) (.str b) = some (a == b) := nrfl rfl
@[go_sem] theorem c6G (k : IntKind) (x : Int) : minOf k x [] = some (.int k x) := nrfl rfl
@[go_sem] theorem c3R (k k' : IntKind) (x y : Int) (r : List V) : minOf k x (.sc (.int k' y) :: r) = minOf k (min x y) r := by
  simp only [minOf]; congr 1; omega
@[go_sem] theorem c6E (k : IntKind) (x : Int) : maxOf k x [] = some (.int k x) := nrfl rfl
@[go_sem] theorem c3P (k k' : IntKind) (x y : Int) (r : List V) : maxOf k x (.sc (.int k' y) :: r) = maxOf k (max x y) r := by
  simp only [maxOf]; congr 1; omega
mutual
theorem b5B (n : Nat) : ∀ c : C, c.pure = true -> c.under n = true
  | .int _ _, _ | .bool _, _ | .str _, _ | .sl _ _ _, _ | .imap _ _ _, _ | .iset _ _, _ | .eptr _ _, _ | .nilf, _ | .nilp, _ | .nili, _ | .top, _ => by simp [C.under]
  | .own _ _, h | .ptr _ _, h | .map _, h | .msl _ _ _ _ _, h | .stamp _ _, h => by simp [C.pure] at h
  | .fn f sh first cap, h => by
    simp only [C.pure, Bool.and_eq_true] at h
    simp only [C.under, Bool.and_eq_true]
    refine ⟨⟨?_, a0C n first h.1.2⟩, a0C n cap h.2⟩
    cases f with
    | fn => rfl
    | yield => simp at h
theorem a0C (n : Nat) : ∀ cs : List C, C.a0v cs = true -> C.a0G n cs = true
  | [], _ => rfl
  | c :: cs, h => by
    simp only [C.a0v, Bool.and_eq_true] at h
    simp only [C.a0G, Bool.and_eq_true]
    exact ⟨b5B n c h.1, a0C n cs h.2⟩
end
theorem wrap_i64 {x : Int} (h1 : -9223372036854775808 <= x) (h2 : x <= 9223372036854775807) : IntKind.i64.wrap x = x := by
  have e1 : IntKind.i64.bits = 64 := rfl
  have e2 : IntKind.i64.signed = true := rfl
  simp only [IntKind.wrap, e1, e2, Bool.true_and, decide_eq_true_eq]
  split <;> omega
attribute [go_sem] fin Int.lt_irrefl Nat.lt_irrefl List.length_nil List.length_cons List.nil_append List.cons_append List.append_nil Nat.zero_add Nat.add_zero Option.map_some List.take_nil List.take_zero List.take_succ_cons List.all_nil List.all_cons List.getElem?_cons_zero List.getElem?_cons_succ List.set_cons_zero List.set_cons_succ List.map_nil List.map_cons List.replicate_zero List.replicate_succ List.flatMap_nil List.flatMap_cons Bool.and_true Bool.true_and Bool.and_false Bool.false_and Bool.and_self Bool.not_true Bool.not_false Bool.xor_false Bool.false_xor Bool.true_xor decide_true decide_false and_self and_true true_and Option.map_none Nat.zero_mul Nat.mul_one
abbrev vi (n : Int) : V := .sc (.int .i64 n)
abbrev vb (b : Bool) : V := .sc (.bool b)
abbrev ci (n : Int) : C := .int .i64 n
attribute [go_sem] Int.toNat_natCast wrap_i64 List.length_map List.getElem?_map Option.map_some Option.map_none List.all_cons List.all_nil List.isEmpty_nil Bool.and_self Bool.true_and Bool.and_true
end Go.Pm

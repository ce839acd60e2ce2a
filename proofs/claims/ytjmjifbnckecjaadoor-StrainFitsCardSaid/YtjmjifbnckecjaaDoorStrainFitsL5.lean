/- The statement StrainFits, part 5. -/
import Derived.Test.YtjmjifbnckecjaaDoorW1
set_option linter.all false
set_option maxRecDepth 100000
namespace Go.Pm.Ac
open Go.Pm
def d6Q : Fn := ⟨2, 52, [(4, none)],
 (.seq (.region 2 [
 ⟨0, some 2, .box 0 (.t 0), none, []⟩,
 ⟨1, some 3, .box 1 (.t 1), none, []⟩,
 ⟨2, some 4, .mv (.k (.sc (.bool false))), none, []⟩] false [2, 3])
 (.seq (.region 0 [
 ⟨0, some 12, .load (some 10) (.t 2), none, []⟩,
 ⟨1, some 13, .load (some 4) (.t 3), none, []⟩,
 ⟨2, some 14, .call true (.f 141) [.t 12, .t 13], none, []⟩,
 ⟨3, some 11, .mv (.t 14), none, []⟩,
 ⟨4, some 15, .ext (.t 11) 0, none, []⟩,
 ⟨5, some 16, .ext (.t 11) 1, none, []⟩,
 ⟨6, some 5, .mv (.t 15), none, []⟩,
 ⟨7, some 6, .mv (.t 16), none, []⟩] false [2, 3, 5, 6])
 (.seq (.region 0 [
 ⟨0, some 18, .load (some 10) (.t 2), none, []⟩,
 ⟨1, some 19, .load (some 4) (.t 3), none, []⟩,
 ⟨2, some 20, .call true (.f 202) [.t 18, .t 19], none, []⟩,
 ⟨3, some 17, .mv (.t 20), none, []⟩,
 ⟨4, some 21, .ext (.t 17) 0, none, []⟩,
 ⟨5, some 22, .ext (.t 17) 1, none, []⟩,
 ⟨6, some 7, .mv (.t 21), none, []⟩,
 ⟨7, some 8, .mv (.t 22), none, []⟩] false [2, 5, 6, 7, 8])
 (.seq (.seq (.region 0 [
 ⟨0, some 23, .mv (.t 5), none, []⟩,
 ⟨1, some 24, .mv (.t 7), none, []⟩,
 ⟨2, some 25, .eqf true ⟨false, [0]⟩ (.t 23) (.t 24), none, []⟩,
 ⟨3, some 26, .mv (.t 25), none, []⟩,
 ⟨4, some 27, .mv (.t 6), some (26, false), []⟩,
 ⟨5, some 28, .mv (.t 8), some (26, false), []⟩,
 ⟨6, some 29, .bin .neq (.t 27) (.t 28), some (26, false), []⟩,
 ⟨7, some 30, .pick (.t 26) (.k (.sc (.bool true))) (.t 29), none, []⟩] false [2, 30])
 (.cond (.t 30)
 (.seq (.region 0 [
 ⟨0, some 4, .mv (.k (.sc (.bool false))), none, []⟩] false [4])
 (.ret))
 (.skip)))
 (.seq (.region 0 [
 ⟨0, some 32, .load (some 10) (.t 2), none, []⟩,
 ⟨1, some 33, .call true (.f 143) [.t 32], none, []⟩,
 ⟨2, some 31, .mv (.t 33), none, []⟩,
 ⟨3, some 34, .ext (.t 31) 0, none, []⟩,
 ⟨4, some 35, .ext (.t 31) 1, none, []⟩,
 ⟨5, some 9, .mv (.t 34), none, []⟩,
 ⟨6, some 6, .mv (.t 35), none, []⟩] false [2, 6, 9])
 (.seq (.region 0 [
 ⟨0, some 37, .load (some 10) (.t 2), none, []⟩,
 ⟨1, some 38, .call true (.f 203) [.t 37], none, []⟩,
 ⟨2, some 36, .mv (.t 38), none, []⟩,
 ⟨3, some 39, .ext (.t 36) 0, none, []⟩,
 ⟨4, some 40, .ext (.t 36) 1, none, []⟩,
 ⟨5, some 10, .mv (.t 39), none, []⟩,
 ⟨6, some 8, .mv (.t 40), none, []⟩] false [6, 8, 9, 10])
 (.seq (.region 0 [
 ⟨0, some 41, .mv (.t 9), none, []⟩,
 ⟨1, some 42, .mv (.t 10), none, []⟩,
 ⟨2, some 43, .call true (.f 23) [.t 41, .t 42], none, []⟩,
 ⟨3, some 44, .mv (.t 43), none, []⟩,
 ⟨4, some 45, .mv (.t 6), some (44, true), []⟩,
 ⟨5, some 46, .mv (.t 8), some (44, true), []⟩,
 ⟨6, some 47, .bin .eql (.t 45) (.t 46), some (44, true), []⟩,
 ⟨7, some 48, .pick (.t 44) (.t 47) (.k (.sc (.bool false))), none, []⟩,
 ⟨8, some 49, .mv (.t 48), none, []⟩,
 ⟨9, some 50, .call true (.f 110) [], some (49, true), []⟩,
 ⟨10, some 51, .pick (.t 49) (.t 50) (.k (.sc (.bool false))), none, []⟩,
 ⟨11, some 4, .mv (.t 51), none, []⟩] false [4])
 (.ret)))))))), false⟩
def a2t : Fn := ⟨2, 37, [(4, none), (5, none)],
 (.seq (.region 2 [
 ⟨0, some 2, .box 0 (.t 0), none, []⟩,
 ⟨1, some 3, .box 1 (.t 1), none, []⟩,
 ⟨2, some 4, .mv (.k (.sc (.bool false))), none, []⟩,
 ⟨3, some 5, .mv (.k (.sc (.int .i64 0))), none, []⟩] false [2, 3])
 (.seq (.seq (.region 1 [
 ⟨0, some 9, .load (some 10) (.t 2), none, []⟩,
 ⟨1, some 10, .load (some 10) (.t 2), none, []⟩,
 ⟨2, some 11, .load (some 4) (.t 3), none, []⟩,
 ⟨3, some 12, .call true (.f 154) [.t 10, .t 11], none, []⟩,
 ⟨4, some 13, .call true (.f 111) [.t 9, .t 12], none, []⟩,
 ⟨5, some 8, .mv (.t 13), none, []⟩,
 ⟨6, some 14, .ext (.t 8) 0, none, []⟩,
 ⟨7, some 15, .ext (.t 8) 1, none, []⟩,
 ⟨8, some 6, .alloc 0 [.sl .nil 2 [], .int .i64 0, .int .i64 0, .int .i64 0, .int .i64 0, .int .i64 0, .int .i64 0, .sl .nil 3 [], .sl .nil 2 [], .sl .nil 4 [], .imap true false [], .sl .nil 4 []], none, [0, 1, 2]⟩,
 ⟨9, none, .store 12 (.t 6) (.t 14), none, []⟩,
 ⟨10, some 7, .mv (.t 15), none, []⟩] true [2, 3, 7])
 (.seq (.region 0 [
 ⟨0, some 16, .mv (.t 7), none, []⟩,
 ⟨1, some 17, .bin .neq (.t 16) (.k (.sc (.int .i64 0))), none, []⟩] false [2, 3, 7, 17])
 (.cond (.t 17)
 (.seq (.region 0 [
 ⟨0, some 18, .mv (.t 7), none, []⟩,
 ⟨1, some 4, .mv (.k (.sc (.bool false))), none, []⟩,
 ⟨2, some 5, .mv (.t 18), none, []⟩] false [4, 5])
 (.ret))
 (.skip))))
 (.seq (.region 0 [
 ⟨0, some 19, .faddr 9 (.t 2), none, []⟩,
 ⟨1, some 20, .load none (.t 19), none, []⟩,
 ⟨2, some 21, .faddr 9 (.t 2), none, []⟩,
 ⟨3, some 22, .load none (.t 21), none, []⟩,
 ⟨4, some 23, .len 1 (.t 22), none, []⟩,
 ⟨5, some 24, .faddr 9 (.t 2), none, []⟩,
 ⟨6, some 25, .load none (.t 24), none, []⟩,
 ⟨7, some 26, .len 1 (.t 25), none, []⟩,
 ⟨8, some 27, .slice 4 (.t 20) none (some (.t 23)) (some (.t 26)), none, []⟩,
 ⟨9, some 28, .load (some 4) (.t 3), none, []⟩,
 ⟨10, some 29, .bslice 4 1 [.int .i64 0, .int .i64 0, .int .i64 0, .int .i64 0] [(0, .t 28)], none, []⟩,
 ⟨11, some 30, .append 4 (.tk 27) (.t 29), none, []⟩,
 ⟨12, some 31, .faddr 9 (.t 2), none, []⟩,
 ⟨13, none, .store 1 (.t 31) (.tk 30), none, []⟩] true [2])
 (.seq (.region 0 [
 ⟨0, some 32, .load (some 10) (.t 2), none, []⟩,
 ⟨1, some 33, .call true (.f 144) [.t 32, .k (.sc (.sl .nil 1 []))], none, []⟩,
 ⟨2, some 34, .field 11 none (.t 33), none, []⟩,
 ⟨3, some 35, .len 1 (.t 34), none, []⟩,
 ⟨4, some 36, .bin .gtr (.t 35) (.k (.sc (.int .i64 0))), none, []⟩,
 ⟨5, some 4, .mv (.t 36), none, []⟩,
 ⟨6, some 5, .mv (.k (.sc (.int .i64 0))), none, []⟩] false [4, 5])
 (.ret))))), false⟩
def d6P : Fn := ⟨2, 33, [(4, none), (5, none)],
 (.seq (.region 2 [
 ⟨0, some 2, .box 0 (.t 0), none, []⟩,
 ⟨1, some 3, .box 1 (.t 1), none, []⟩,
 ⟨2, some 4, .mv (.k (.sc (.bool false))), none, []⟩,
 ⟨3, some 5, .mv (.k (.sc (.int .i64 0))), none, []⟩] false [2, 3])
 (.seq (.seq (.region 0 [
 ⟨0, some 10, .load (some 10) (.t 2), none, []⟩,
 ⟨1, some 11, .load (some 10) (.t 2), none, []⟩,
 ⟨2, some 12, .load (some 4) (.t 3), none, []⟩,
 ⟨3, some 13, .call true (.f 158) [.t 11, .t 12], none, []⟩,
 ⟨4, some 14, .call true (.f 114) [.t 10, .t 13], none, []⟩,
 ⟨5, some 9, .mv (.t 14), none, []⟩,
 ⟨6, some 15, .ext (.t 9) 0, none, []⟩,
 ⟨7, some 16, .ext (.t 9) 1, none, []⟩,
 ⟨8, some 6, .mv (.t 15), none, []⟩,
 ⟨9, some 7, .mv (.t 16), none, []⟩] true [2, 3, 7])
 (.seq (.region 0 [
 ⟨0, some 17, .mv (.t 7), none, []⟩,
 ⟨1, some 18, .bin .neq (.t 17) (.k (.sc (.int .i64 0))), none, []⟩] false [2, 3, 7, 18])
 (.cond (.t 18)
 (.seq (.region 0 [
 ⟨0, some 19, .mv (.t 7), none, []⟩,
 ⟨1, some 4, .mv (.k (.sc (.bool false))), none, []⟩,
 ⟨2, some 5, .mv (.t 19), none, []⟩] false [4, 5])
 (.ret))
 (.skip))))
 (.seq (.region 1 [
 ⟨0, some 20, .load (some 10) (.t 2), none, []⟩,
 ⟨1, some 8, .alloc 0 [.sl .nil 2 [], .int .i64 0, .int .i64 0, .int .i64 0, .int .i64 0, .int .i64 0, .int .i64 0, .sl .nil 3 [], .sl .nil 2 [], .sl .nil 4 []], none, []⟩,
 ⟨2, none, .store 10 (.t 8) (.t 20), none, []⟩] false [2, 3, 8])
 (.seq (.region 0 [
 ⟨0, some 21, .bslice 4 0 [.int .i64 0, .int .i64 0, .int .i64 0, .int .i64 0] [], none, []⟩,
 ⟨1, some 22, .faddr 9 (.t 2), none, []⟩,
 ⟨2, some 23, .load none (.t 22), none, []⟩,
 ⟨3, some 24, .append 4 (.tk 21) (.t 23), none, []⟩,
 ⟨4, some 25, .load (some 4) (.t 3), none, []⟩,
 ⟨5, some 26, .bslice 4 1 [.int .i64 0, .int .i64 0, .int .i64 0, .int .i64 0] [(0, .t 25)], none, []⟩,
 ⟨6, some 27, .append 4 (.tk 24) (.t 26), none, []⟩,
 ⟨7, some 28, .faddr 9 (.t 8), none, []⟩,
 ⟨8, none, .store 1 (.t 28) (.tk 27), none, []⟩] true [8])
 (.seq (.region 0 [
 ⟨0, some 29, .load (some 10) (.t 8), none, []⟩,
 ⟨1, some 30, .call true (.f 147) [.t 29, .k (.sc (.int .i64 0))], none, []⟩,
 ⟨2, some 31, .len 1 (.t 30), none, []⟩,
 ⟨3, some 32, .bin .gtr (.t 31) (.k (.sc (.int .i64 0))), none, []⟩,
 ⟨4, some 4, .mv (.t 32), none, []⟩,
 ⟨5, some 5, .mv (.k (.sc (.int .i64 0))), none, []⟩] false [4, 5])
 (.ret)))))), false⟩
def a1U : AC :=
 (.seq (.region 0 [
 ⟨0, some 20, .bin .lss (.t 19) (.t 18), none, []⟩] false [5, 18, 19, 20])
 (.seq (.cond (.t 20)
 (.skip)
 (.exit 0))
 (.seq (.block 1 (.seq (.region 0 [
 ⟨0, some 21, .mv (.t 19), none, []⟩,
 ⟨1, some 6, .mv (.t 21), none, []⟩] false [5, 6, 18, 19])
 (.seq (.region 0 [
 ⟨0, some 23, .load none (.t 5), none, []⟩,
 ⟨1, some 24, .mv (.t 6), none, []⟩,
 ⟨2, some 25, .call false (.t 23) [.k (.sc (.sl .nil 1 [])), .t 24], none, []⟩,
 ⟨3, some 22, .mv (.t 25), none, []⟩,
 ⟨4, some 26, .ext (.t 22) 0, none, []⟩,
 ⟨5, some 27, .ext (.t 22) 1, none, []⟩,
 ⟨6, some 7, .mv (.t 26), none, []⟩,
 ⟨7, some 8, .mv (.t 27), none, []⟩] false [5, 7, 8, 18, 19])
 (.seq (.region 0 [
 ⟨0, some 28, .mv (.t 8), none, []⟩] false [5, 7, 18, 19, 28])
 (.cond (.t 28)
 (.seq (.region 0 [
 ⟨0, some 29, .mv (.t 7), none, []⟩,
 ⟨1, some 30, .mv (.t 7), none, []⟩,
 ⟨2, some 31, .len 1 (.t 30), none, []⟩,
 ⟨3, some 32, .mv (.t 7), none, []⟩,
 ⟨4, some 33, .len 1 (.t 32), none, []⟩,
 ⟨5, some 34, .slice 1 (.t 29) none (some (.t 31)) (some (.t 33)), none, []⟩,
 ⟨6, some 2, .mv (.t 34), none, []⟩,
 ⟨7, some 3, .mv (.k (.sc (.int .i64 0))), none, []⟩] false [2, 3])
 (.ret))
 (.skip))))))
 (.region 0 [
 ⟨0, some 35, .bin .add (.t 19) (.k (.sc (.int .i64 1))), none, []⟩,
 ⟨1, some 19, .mv (.t 35), none, []⟩] false [5, 18, 19]))))
def a8t : AC := .loop [5, 18, 19] a1U
def a4l : Fn := ⟨1, 36, [(2, none), (3, none)],
 (.seq (.region 1 [
 ⟨0, some 1, .box 0 (.t 0), none, []⟩,
 ⟨1, some 2, .mv (.k (.sc (.sl .nil 1 []))), none, []⟩,
 ⟨2, some 3, .mv (.k (.sc (.int .i64 0))), none, []⟩] false [1])
 (.frz 1 (.seq (.seq (.region 0 [
 ⟨0, some 9, .load (some 10) (.t 1), none, []⟩,
 ⟨1, some 10, .call true (.f 117) [.t 9], none, []⟩,
 ⟨2, some 4, .mv (.t 10), none, []⟩] false [1, 4])
 (.seq (.region 0 [
 ⟨0, some 11, .mv (.t 4), none, []⟩,
 ⟨1, some 12, .bin .neq (.t 11) (.k (.sc (.int .i64 0))), none, []⟩] false [1, 4, 12])
 (.cond (.t 12)
 (.seq (.region 0 [
 ⟨0, some 13, .mv (.t 4), none, []⟩,
 ⟨1, some 2, .mv (.k (.sc (.sl .nil 1 []))), none, []⟩,
 ⟨2, some 3, .mv (.t 13), none, []⟩] false [2, 3])
 (.ret))
 (.skip))))
 (.seq (.region 1 [
 ⟨0, some 5, .alloc 0 [.nilf], none, []⟩] false [1, 5])
 (.seq (.region 0 [
 ⟨0, some 14, .mkf 170 [] [] [.t 1, .t 5], none, []⟩,
 ⟨1, none, .store 1 (.t 5) (.t 14), none, []⟩] false [1, 5])
 (.seq (.seq (.region 0 [
 ⟨0, some 15, .faddr 9 (.t 1), none, []⟩,
 ⟨1, some 16, .load none (.t 15), none, []⟩,
 ⟨2, some 17, .len 1 (.t 16), none, []⟩,
 ⟨3, some 18, .bin .add (.t 17) (.k (.sc (.int .i64 1))), none, []⟩,
 ⟨4, some 19, .mv (.k (.sc (.int .i64 0))), none, []⟩] false [5, 18, 19])
 (.block 0 (a8t)))
 (.seq (.region 0 [
 ⟨0, some 2, .mv (.k (.sc (.sl .nil 1 []))), none, []⟩,
 ⟨1, some 3, .mv (.k (.sc (.int .i64 0))), none, []⟩] false [2, 3])
 (.ret)))))))), false⟩
def d6N : AC :=
 (.seq (.seq (.region 0 [
 ⟨0, some 22, .mv (.t 7), none, []⟩,
 ⟨1, some 23, .mv (.t 5), none, []⟩,
 ⟨2, some 24, .bin .shl (.k (.sc (.int .i64 1))) (.t 23), none, []⟩,
 ⟨3, some 25, .bin .lss (.t 22) (.t 24), none, []⟩] false [1, 5, 6, 7, 25])
 (.cond (.t 25)
 (.skip)
 (.exit 0)))
 (.seq (.block 1 (.seq (.region 0 [
 ⟨0, some 28, .mv (.t 7), none, []⟩,
 ⟨1, some 29, .mv (.t 5), none, []⟩,
 ⟨2, some 30, .call true (.f 35) [.t 28, .t 29], none, []⟩,
 ⟨3, some 8, .mv (.t 30), none, []⟩] false [1, 5, 6, 7, 8])
 (.seq (.region 0 [
 ⟨0, some 31, .mv (.t 8), none, []⟩,
 ⟨1, some 32, .mv (.t 6), none, []⟩,
 ⟨2, some 33, .call true (.f 37) [.t 31, .t 32], none, []⟩,
 ⟨3, some 34, .mv (.t 33), none, []⟩,
 ⟨4, some 35, .load (some 10) (.t 1), some (34, true), []⟩,
 ⟨5, some 36, .mv (.t 7), some (34, true), []⟩,
 ⟨6, some 37, .call true (.f 147) [.t 35, .t 36], some (34, true), []⟩,
 ⟨7, some 38, .len 1 (.t 37), some (34, true), []⟩,
 ⟨8, some 39, .bin .gtr (.t 38) (.k (.sc (.int .i64 0))), some (34, true), []⟩,
 ⟨9, some 40, .pick (.t 34) (.t 39) (.k (.sc (.bool false))), none, []⟩] false [1, 5, 6, 7, 8, 40])
 (.cond (.t 40)
 (.region 0 [
 ⟨0, some 41, .mv (.t 8), none, []⟩,
 ⟨1, some 6, .mv (.t 41), none, []⟩] false [1, 5, 6, 7])
 (.skip)))))
 (.region 0 [
 ⟨0, some 26, .mv (.t 7), none, []⟩,
 ⟨1, some 27, .bin .add (.t 26) (.k (.sc (.int .i64 1))), none, []⟩,
 ⟨2, some 7, .mv (.t 27), none, []⟩] false [1, 5, 6, 7])))
def d6R : AC := .loop [1, 5, 6, 7] d6N
def d6O : Fn := ⟨1, 43, [(2, none), (3, none)],
 (.seq (.region 1 [
 ⟨0, some 1, .box 0 (.t 0), none, []⟩,
 ⟨1, some 2, .mv (.k (.sc (.sl .nil 1 []))), none, []⟩,
 ⟨2, some 3, .mv (.k (.sc (.int .i64 0))), none, []⟩] false [1])
 (.seq (.seq (.region 0 [
 ⟨0, some 9, .load (some 10) (.t 1), none, []⟩,
 ⟨1, some 10, .call true (.f 119) [.t 9], none, []⟩,
 ⟨2, some 4, .mv (.t 10), none, []⟩] false [1, 4])
 (.seq (.region 0 [
 ⟨0, some 11, .mv (.t 4), none, []⟩,
 ⟨1, some 12, .bin .neq (.t 11) (.k (.sc (.int .i64 0))), none, []⟩] false [1, 4, 12])
 (.cond (.t 12)
 (.seq (.region 0 [
 ⟨0, some 13, .mv (.t 4), none, []⟩,
 ⟨1, some 2, .mv (.k (.sc (.sl .nil 1 []))), none, []⟩,
 ⟨2, some 3, .mv (.t 13), none, []⟩] false [2, 3])
 (.ret))
 (.skip))))
 (.seq (.region 0 [
 ⟨0, some 14, .faddr 9 (.t 1), none, []⟩,
 ⟨1, some 15, .load none (.t 14), none, []⟩,
 ⟨2, some 16, .len 1 (.t 15), none, []⟩,
 ⟨3, some 5, .mv (.t 16), none, []⟩] false [1, 5])
 (.seq (.region 0 [
 ⟨0, some 17, .mv (.t 5), none, []⟩,
 ⟨1, some 18, .bin .shl (.k (.sc (.int .i64 1))) (.t 17), none, []⟩,
 ⟨2, some 19, .bin .sub (.t 18) (.k (.sc (.int .i64 1))), none, []⟩,
 ⟨3, some 20, .mv (.t 5), none, []⟩,
 ⟨4, some 21, .call true (.f 35) [.t 19, .t 20], none, []⟩,
 ⟨5, some 6, .mv (.t 21), none, []⟩] false [1, 5, 6])
 (.seq (.seq (.region 0 [
 ⟨0, some 7, .mv (.k (.sc (.int .i64 0))), none, []⟩] false [1, 5, 6, 7])
 (.block 0 (d6R)))
 (.seq (.region 0 [
 ⟨0, some 42, .mv (.t 6), none, []⟩,
 ⟨1, some 2, .mv (.t 42), none, []⟩,
 ⟨2, some 3, .mv (.k (.sc (.int .i64 0))), none, []⟩] false [2, 3])
 (.ret))))))), false⟩
def a1b : AC :=
 (.seq (.seq (.region 0 [
 ⟨0, some 12, .mv (.t 5), none, []⟩,
 ⟨1, some 13, .mv (.t 12), none, []⟩,
 ⟨2, some 14, .mv (.t 6), some (13, true), []⟩,
 ⟨3, some 15, .mv (.t 0), some (13, true), []⟩,
 ⟨4, some 16, .len 1 (.t 15), some (13, true), []⟩,
 ⟨5, some 17, .bin .lss (.t 14) (.t 16), some (13, true), []⟩,
 ⟨6, some 18, .pick (.t 13) (.t 17) (.k (.sc (.bool false))), none, []⟩] false [0, 1, 5, 6, 18])
 (.cond (.t 18)
 (.skip)
 (.exit 0)))
 (.seq (.block 1 (.region 0 [
 ⟨0, some 21, .mv (.t 0), none, []⟩,
 ⟨1, some 22, .mv (.t 6), none, []⟩,
 ⟨2, some 23, .iaddr 1 (.t 21) (.t 22), none, []⟩,
 ⟨3, some 24, .load none (.t 23), none, []⟩,
 ⟨4, some 25, .mv (.t 1), none, []⟩,
 ⟨5, some 26, .mv (.t 6), none, []⟩,
 ⟨6, some 27, .iaddr 1 (.t 25) (.t 26), none, []⟩,
 ⟨7, some 28, .load none (.t 27), none, []⟩,
 ⟨8, some 29, .bin .eql (.t 24) (.t 28), none, []⟩,
 ⟨9, some 5, .mv (.t 29), none, []⟩] true [0, 1, 5, 6]))
 (.region 0 [
 ⟨0, some 19, .mv (.t 6), none, []⟩,
 ⟨1, some 20, .bin .add (.t 19) (.k (.sc (.int .i64 1))), none, []⟩,
 ⟨2, some 6, .mv (.t 20), none, []⟩] false [0, 1, 5, 6])))
def a6n : AC := .loop [0, 1, 5, 6] a1b
def a3l : Fn := ⟨2, 31, [(4, none)],
 (.seq (.region 0 [
 ⟨0, some 4, .mv (.k (.sc (.bool false))), none, []⟩] false [0, 1])
 (.seq (.region 0 [
 ⟨0, some 7, .mv (.t 0), none, []⟩,
 ⟨1, some 8, .len 1 (.t 7), none, []⟩,
 ⟨2, some 9, .mv (.t 1), none, []⟩,
 ⟨3, some 10, .len 1 (.t 9), none, []⟩,
 ⟨4, some 11, .bin .eql (.t 8) (.t 10), none, []⟩,
 ⟨5, some 5, .mv (.t 11), none, []⟩] false [0, 1, 5])
 (.seq (.seq (.region 0 [
 ⟨0, some 6, .mv (.k (.sc (.int .i64 0))), none, []⟩] false [0, 1, 5, 6])
 (.block 0 (a6n)))
 (.seq (.region 0 [
 ⟨0, some 30, .mv (.t 5), none, []⟩,
 ⟨1, some 4, .mv (.t 30), none, []⟩] false [4])
 (.ret))))), false⟩
def a3M : Fn := ⟨0, 173, [(0, none)],
 (.seq (.region 0 [
 ⟨0, some 0, .mv (.k (.sc (.bool false))), none, []⟩] false [])
 (.seq (.region 1 [
 ⟨0, some 20, .call true (.f 134) [], none, []⟩,
 ⟨1, some 21, .call true (.f 135) [.t 20, .k (.sc (.int .i64 0)), .k (.sc (.int .i64 3))], none, []⟩,
 ⟨2, some 19, .mv (.t 21), none, []⟩,
 ⟨3, some 22, .ext (.t 19) 0, none, []⟩,
 ⟨4, some 23, .ext (.t 19) 1, none, []⟩,
 ⟨5, some 1, .alloc 0 [.int .i64 0, .int .i64 0], none, []⟩,
 ⟨6, none, .store 2 (.t 1) (.t 22), none, []⟩,
 ⟨7, some 2, .mv (.t 23), none, []⟩] false [1, 2])
 (.seq (.region 1 [
 ⟨0, some 25, .call true (.f 136) [], none, []⟩,
 ⟨1, some 26, .call true (.f 135) [.t 25, .k (.sc (.int .i64 1)), .k (.sc (.int .i64 0))], none, []⟩,
 ⟨2, some 24, .mv (.t 26), none, []⟩,
 ⟨3, some 27, .ext (.t 24) 0, none, []⟩,
 ⟨4, some 28, .ext (.t 24) 1, none, []⟩,
 ⟨5, some 3, .alloc 0 [.int .i64 0, .int .i64 0], none, []⟩,
 ⟨6, none, .store 2 (.t 3) (.t 27), none, []⟩,
 ⟨7, some 4, .mv (.t 28), none, []⟩] false [1, 2, 3, 4])
 (.seq (.region 1 [
 ⟨0, some 30, .call true (.f 136) [], none, []⟩,
 ⟨1, some 31, .call true (.f 137) [.t 30, .k (.sc (.int .i64 0))], none, []⟩,
 ⟨2, some 29, .mv (.t 31), none, []⟩,
 ⟨3, some 32, .ext (.t 29) 0, none, []⟩,
 ⟨4, some 33, .ext (.t 29) 1, none, []⟩,
 ⟨5, some 5, .alloc 0 [.int .i64 0, .int .i64 0], none, []⟩,
 ⟨6, none, .store 2 (.t 5) (.t 32), none, []⟩,
 ⟨7, some 6, .mv (.t 33), none, []⟩] false [1, 2, 3, 4, 5, 6])
 (.seq (.region 0 [
 ⟨0, some 35, .call true (.f 134) [], none, []⟩,
 ⟨1, some 36, .call true (.f 138) [.t 35, .k (.sc (.int .i64 1))], none, []⟩,
 ⟨2, some 34, .mv (.t 36), none, []⟩,
 ⟨3, some 37, .ext (.t 34) 0, none, []⟩,
 ⟨4, some 38, .ext (.t 34) 1, none, []⟩,
 ⟨5, some 7, .mv (.t 37), none, []⟩,
 ⟨6, some 8, .mv (.t 38), none, []⟩] false [1, 2, 3, 4, 5, 6, 7, 8])
 (.seq (.region 0 [
 ⟨0, some 40, .call true (.f 134) [], none, []⟩,
 ⟨1, some 41, .call true (.f 101) [.t 40], none, []⟩,
 ⟨2, some 39, .mv (.t 41), none, []⟩,
 ⟨3, some 42, .ext (.t 39) 0, none, []⟩,
 ⟨4, some 43, .ext (.t 39) 1, none, []⟩,
 ⟨5, some 44, .ext (.t 39) 2, none, []⟩,
 ⟨6, some 9, .mv (.t 42), none, []⟩,
 ⟨7, some 10, .mv (.t 43), none, []⟩,
 ⟨8, some 11, .mv (.t 44), none, []⟩] false [1, 2, 3, 4, 5, 6, 7, 8, 9, 10, 11])
 (.seq (.seq (.region 0 [
 ⟨0, some 45, .mv (.t 2), none, []⟩,
 ⟨1, some 46, .bin .neq (.t 45) (.k (.sc (.int .i64 0))), none, []⟩,
 ⟨2, some 47, .mv (.t 46), none, []⟩,
 ⟨3, some 48, .mv (.t 4), some (47, false), []⟩,
 ⟨4, some 49, .bin .neq (.t 48) (.k (.sc (.int .i64 0))), some (47, false), []⟩,
 ⟨5, some 50, .pick (.t 47) (.k (.sc (.bool true))) (.t 49), none, []⟩,
 ⟨6, some 51, .mv (.t 50), none, []⟩,
 ⟨7, some 52, .mv (.t 6), some (51, false), []⟩,
 ⟨8, some 53, .bin .neq (.t 52) (.k (.sc (.int .i64 0))), some (51, false), []⟩,
 ⟨9, some 54, .pick (.t 51) (.k (.sc (.bool true))) (.t 53), none, []⟩,
 ⟨10, some 55, .mv (.t 54), none, []⟩,
 ⟨11, some 56, .mv (.t 8), some (55, false), []⟩,
 ⟨12, some 57, .bin .neq (.t 56) (.k (.sc (.int .i64 0))), some (55, false), []⟩,
 ⟨13, some 58, .pick (.t 55) (.k (.sc (.bool true))) (.t 57), none, []⟩,
 ⟨14, some 59, .mv (.t 58), none, []⟩,
 ⟨15, some 60, .mv (.t 11), some (59, false), []⟩,
 ⟨16, some 61, .bin .neq (.t 60) (.k (.sc (.int .i64 0))), some (59, false), []⟩,
 ⟨17, some 62, .pick (.t 59) (.k (.sc (.bool true))) (.t 61), none, []⟩,
 ⟨18, some 63, .mv (.t 62), none, []⟩,
 ⟨19, some 64, .load (some 2) (.t 1), some (63, false), []⟩,
 ⟨20, some 65, .call true (.f 33) [.k (.sc (.int .i64 (-2))), .k (.sc (.int .i64 5))], some (63, false), []⟩,
 ⟨21, some 66, .eqf true ⟨true, [1, 1]⟩ (.t 64) (.t 65), some (63, false), []⟩,
 ⟨22, some 67, .pick (.t 63) (.k (.sc (.bool true))) (.t 66), none, []⟩,
 ⟨23, some 68, .mv (.t 67), none, []⟩,
 ⟨24, some 69, .load (some 2) (.t 3), some (68, false), []⟩,
 ⟨25, some 70, .call true (.f 30) [.k (.sc (.int .i64 1))], some (68, false), []⟩,
 ⟨26, some 71, .eqf true ⟨true, [1, 1]⟩ (.t 69) (.t 70), some (68, false), []⟩,
 ⟨27, some 72, .pick (.t 68) (.k (.sc (.bool true))) (.t 71), none, []⟩,
 ⟨28, some 73, .mv (.t 72), none, []⟩,
 ⟨29, some 74, .load (some 2) (.t 5), some (73, false), []⟩,
 ⟨30, some 75, .call true (.f 30) [.k (.sc (.int .i64 3))], some (73, false), []⟩,
 ⟨31, some 76, .eqf true ⟨true, [1, 1]⟩ (.t 74) (.t 75), some (73, false), []⟩,
 ⟨32, some 77, .pick (.t 73) (.k (.sc (.bool true))) (.t 76), none, []⟩,
 ⟨33, some 78, .mv (.t 77), none, []⟩,
 ⟨34, some 79, .mv (.t 7), some (78, false), []⟩,
 ⟨35, some 80, .bin .neq (.t 79) (.k (.sc (.int .i64 2))), some (78, false), []⟩,
 ⟨36, some 81, .pick (.t 78) (.k (.sc (.bool true))) (.t 80), none, []⟩,
 ⟨37, some 82, .mv (.t 81), none, []⟩,
 ⟨38, some 83, .mv (.t 9), some (82, false), []⟩,
 ⟨39, some 84, .bin .neq (.t 83) (.k (.sc (.int .i64 2))), some (82, false), []⟩,
 ⟨40, some 85, .pick (.t 82) (.k (.sc (.bool true))) (.t 84), none, []⟩,
 ⟨41, some 86, .mv (.t 85), none, []⟩,
 ⟨42, some 87, .mv (.t 10), some (86, false), []⟩,
 ⟨43, some 88, .bin .neq (.t 87) (.k (.sc (.int .i64 0))), some (86, false), []⟩,
 ⟨44, some 89, .pick (.t 86) (.k (.sc (.bool true))) (.t 88), none, []⟩] true [89])
 (.cond (.t 89)
 (.seq (.region 0 [
 ⟨0, some 0, .mv (.k (.sc (.bool false))), none, []⟩] false [0])
 (.ret))
 (.skip)))
 (.seq (.region 0 [
 ⟨0, some 91, .call true (.f 134) [], none, []⟩,
 ⟨1, some 92, .bslice 1 4 [.int .i64 0] [(0, .k (.sc (.int .i64 0))), (1, .k (.sc (.int .i64 0))), (2, .k (.sc (.int .i64 1))), (3, .k (.sc (.int .i64 1)))], none, []⟩,
 ⟨2, some 93, .call true (.f 139) [.t 92], none, []⟩,
 ⟨3, some 94, .call true (.f 105) [.t 91, .t 93], none, []⟩,
 ⟨4, some 90, .mv (.t 94), none, []⟩,
 ⟨5, some 95, .ext (.t 90) 0, none, []⟩,
 ⟨6, some 96, .ext (.t 90) 1, none, []⟩,
 ⟨7, some 12, .mv (.t 95), none, []⟩,
 ⟨8, some 2, .mv (.t 96), none, []⟩] false [2, 12])
 (.seq (.region 0 [
 ⟨0, some 98, .call true (.f 134) [], none, []⟩,
 ⟨1, some 99, .call true (.f 107) [.t 98], none, []⟩,
 ⟨2, some 97, .mv (.t 99), none, []⟩,
 ⟨3, some 100, .ext (.t 97) 0, none, []⟩,
 ⟨4, some 101, .ext (.t 97) 1, none, []⟩,
 ⟨5, some 13, .mv (.t 100), none, []⟩,
 ⟨6, some 4, .mv (.t 101), none, []⟩] false [2, 4, 12, 13])
 (.seq (.region 0 [
 ⟨0, some 103, .call true (.f 140) [], none, []⟩,
 ⟨1, some 104, .call true (.f 107) [.t 103], none, []⟩,
 ⟨2, some 102, .mv (.t 104), none, []⟩,
 ⟨3, some 105, .ext (.t 102) 0, none, []⟩,
 ⟨4, some 106, .ext (.t 102) 1, none, []⟩,
 ⟨5, some 14, .mv (.t 105), none, []⟩,
 ⟨6, some 6, .mv (.t 106), none, []⟩] false [2, 4, 6, 12, 13, 14])
 (.seq (.region 0 [
 ⟨0, some 108, .call true (.f 134) [], none, []⟩,
 ⟨1, some 109, .build [.int .i64 0, .int .i64 0, .int .i64 0, .int .i64 0] [(0, 1, .k (.sc (.int .i64 1))), (2, 1, .k (.sc (.int .i64 3))), (3, 1, .k (.sc (.int .i64 1)))], none, []⟩,
 ⟨2, some 110, .call true (.f 141) [.t 108, .t 109], none, []⟩,
 ⟨3, some 107, .mv (.t 110), none, []⟩,
 ⟨4, some 111, .ext (.t 107) 0, none, []⟩,
 ⟨5, some 112, .ext (.t 107) 1, none, []⟩,
 ⟨6, some 15, .mv (.t 111), none, []⟩,
 ⟨7, some 8, .mv (.t 112), none, []⟩] false [2, 4, 6, 8, 12, 13, 14, 15])
 (.seq (.region 0 [
 ⟨0, some 114, .call true (.f 142) [], none, []⟩,
 ⟨1, some 115, .call true (.f 143) [.t 114], none, []⟩,
 ⟨2, some 113, .mv (.t 115), none, []⟩,
 ⟨3, some 116, .ext (.t 113) 0, none, []⟩,
 ⟨4, some 117, .ext (.t 113) 1, none, []⟩,
 ⟨5, some 16, .mv (.t 116), none, []⟩,
 ⟨6, some 11, .mv (.t 117), none, []⟩] false [2, 4, 6, 8, 11, 12, 13, 14, 15, 16])
 (.seq (.region 0 [
 ⟨0, some 119, .call true (.f 134) [], none, []⟩,
 ⟨1, some 120, .bslice 1 4 [.int .i64 0] [(0, .k (.sc (.int .i64 0))), (1, .k (.sc (.int .i64 0))), (2, .k (.sc (.int .i64 1))), (3, .k (.sc (.int .i64 1)))], none, []⟩,
 ⟨2, some 121, .call true (.f 139) [.t 120], none, []⟩,
 ⟨3, some 122, .call true (.f 103) [.t 119, .t 121], none, []⟩,
 ⟨4, some 118, .mv (.t 122), none, []⟩,
 ⟨5, some 123, .ext (.t 118) 0, none, []⟩,
 ⟨6, some 124, .ext (.t 118) 1, none, []⟩,
 ⟨7, some 17, .mv (.t 123), none, []⟩,
 ⟨8, some 18, .mv (.t 124), none, []⟩] false [2, 4, 6, 8, 11, 12, 13, 14, 15, 16, 17, 18])
 (.seq (.region 0 [
 ⟨0, some 125, .mv (.t 2), none, []⟩,
 ⟨1, some 126, .bin .eql (.t 125) (.k (.sc (.int .i64 0))), none, []⟩,
 ⟨2, some 127, .mv (.t 126), none, []⟩,
 ⟨3, some 128, .mv (.t 4), some (127, true), []⟩,
 ⟨4, some 129, .bin .eql (.t 128) (.k (.sc (.int .i64 0))), some (127, true), []⟩,
 ⟨5, some 130, .pick (.t 127) (.t 129) (.k (.sc (.bool false))), none, []⟩,
 ⟨6, some 131, .mv (.t 130), none, []⟩,
 ⟨7, some 132, .mv (.t 6), some (131, true), []⟩,
 ⟨8, some 133, .bin .eql (.t 132) (.k (.sc (.int .i64 0))), some (131, true), []⟩,
 ⟨9, some 134, .pick (.t 131) (.t 133) (.k (.sc (.bool false))), none, []⟩,
 ⟨10, some 135, .mv (.t 134), none, []⟩,
 ⟨11, some 136, .mv (.t 8), some (135, true), []⟩,
 ⟨12, some 137, .bin .eql (.t 136) (.k (.sc (.int .i64 0))), some (135, true), []⟩,
 ⟨13, some 138, .pick (.t 135) (.t 137) (.k (.sc (.bool false))), none, []⟩,
 ⟨14, some 139, .mv (.t 138), none, []⟩,
 ⟨15, some 140, .mv (.t 11), some (139, true), []⟩,
 ⟨16, some 141, .bin .eql (.t 140) (.k (.sc (.int .i64 0))), some (139, true), []⟩,
 ⟨17, some 142, .pick (.t 139) (.t 141) (.k (.sc (.bool false))), none, []⟩,
 ⟨18, some 143, .mv (.t 142), none, []⟩,
 ⟨19, some 144, .mv (.t 18), some (143, true), []⟩,
 ⟨20, some 145, .bin .eql (.t 144) (.k (.sc (.int .i64 0))), some (143, true), []⟩,
 ⟨21, some 146, .pick (.t 143) (.t 145) (.k (.sc (.bool false))), none, []⟩,
 ⟨22, some 147, .mv (.t 146), none, []⟩,
 ⟨23, some 148, .mv (.t 12), some (147, true), []⟩,
 ⟨24, some 149, .pick (.t 147) (.t 148) (.k (.sc (.bool false))), none, []⟩,
 ⟨25, some 150, .mv (.t 149), none, []⟩,
 ⟨26, some 151, .mv (.t 13), some (150, true), []⟩,
 ⟨27, some 152, .bslice 1 4 [.int .i64 0] [(0, .k (.sc (.int .i64 0))), (1, .k (.sc (.int .i64 0))), (2, .k (.sc (.int .i64 1))), (3, .k (.sc (.int .i64 1)))], some (150, true), []⟩,
 ⟨28, some 153, .call true (.f 139) [.t 152], some (150, true), []⟩,
 ⟨29, some 154, .call true (.f 109) [.t 151, .t 153], some (150, true), []⟩,
 ⟨30, some 155, .pick (.t 150) (.t 154) (.k (.sc (.bool false))), none, []⟩,
 ⟨31, some 156, .mv (.t 155), none, []⟩,
 ⟨32, some 157, .mv (.t 14), some (156, true), []⟩,
 ⟨33, some 158, .bslice 1 4 [.int .i64 0] [(0, .k (.sc (.int .i64 0))), (1, .k (.sc (.int .i64 0))), (2, .k (.sc (.int .i64 2))), (3, .k (.sc (.int .i64 1)))], some (156, true), []⟩,
 ⟨34, some 159, .call true (.f 139) [.t 158], some (156, true), []⟩,
 ⟨35, some 160, .call true (.f 109) [.t 157, .t 159], some (156, true), []⟩,
 ⟨36, some 161, .pick (.t 156) (.t 160) (.k (.sc (.bool false))), none, []⟩,
 ⟨37, some 162, .mv (.t 161), none, []⟩,
 ⟨38, some 163, .mv (.t 15), some (162, true), []⟩,
 ⟨39, some 164, .pick (.t 162) (.t 163) (.k (.sc (.bool false))), none, []⟩,
 ⟨40, some 165, .mv (.t 164), none, []⟩,
 ⟨41, some 166, .mv (.t 16), some (165, true), []⟩,
 ⟨42, some 167, .bslice 1 1 [.int .i64 0] [(0, .k (.sc (.int .i64 0)))], some (165, true), []⟩,
 ⟨43, some 168, .call true (.f 23) [.t 166, .t 167], some (165, true), []⟩,
 ⟨44, some 169, .pick (.t 165) (.t 168) (.k (.sc (.bool false))), none, []⟩,
 ⟨45, some 170, .mv (.t 169), none, []⟩,
 ⟨46, some 171, .mv (.t 17), some (170, true), []⟩,
 ⟨47, some 172, .pick (.t 170) (.t 171) (.k (.sc (.bool false))), none, []⟩,
 ⟨48, some 0, .mv (.t 172), none, []⟩] false [0])
 (.ret))))))))))))))), false⟩
def a1T : AC :=
 (.seq (.region 0 [
 ⟨0, some 29, .bin .lss (.t 28) (.t 27), none, []⟩] false [1, 5, 6, 27, 28, 29])
 (.seq (.cond (.t 29)
 (.skip)
 (.exit 2))
 (.seq (.block 3 (.seq (.region 0 [
 ⟨0, some 30, .mv (.t 28), none, []⟩,
 ⟨1, some 7, .mv (.t 30), none, []⟩] false [1, 5, 6, 7, 27, 28])
 (.seq (.region 0 [
 ⟨0, some 31, .load (some 12) (.t 5), none, []⟩,
 ⟨1, some 32, .mv (.t 7), none, []⟩,
 ⟨2, some 33, .mv (.t 6), none, []⟩,
 ⟨3, some 34, .faddr 10 (.t 5), none, []⟩,
 ⟨4, some 35, .load none (.t 34), none, []⟩,
 ⟨5, some 36, .call true (.f 113) [.t 31, .t 32, .t 33, .t 35], none, []⟩] false [1, 5, 6, 7, 27, 28, 36])
 (.cond (.t 36)
 (.seq (.region 0 [
 ⟨0, some 37, .mv (.t 6), none, []⟩,
 ⟨1, some 38, .mv (.t 7), none, []⟩,
 ⟨2, some 2, .mv (.t 37), none, []⟩,
 ⟨3, some 3, .mv (.t 38), none, []⟩,
 ⟨4, some 4, .mv (.k (.sc (.int .i64 0))), none, []⟩] false [2, 3, 4])
 (.ret))
 (.skip)))))
 (.region 0 [
 ⟨0, some 39, .bin .add (.t 28) (.k (.sc (.int .i64 1))), none, []⟩,
 ⟨1, some 28, .mv (.t 39), none, []⟩] false [1, 5, 6, 27, 28]))))
def a8s : AC := .loop [1, 5, 6, 27, 28] a1T
def a4Z : AC :=
 (.seq (.seq (.region 0 [
 ⟨0, some 18, .mv (.t 6), none, []⟩,
 ⟨1, some 19, .faddr 7 (.t 1), none, []⟩,
 ⟨2, some 20, .load none (.t 19), none, []⟩,
 ⟨3, some 21, .len 1 (.t 20), none, []⟩,
 ⟨4, some 22, .bin .lss (.t 18) (.t 21), none, []⟩] false [1, 5, 6, 22])
 (.cond (.t 22)
 (.skip)
 (.exit 0)))
 (.seq (.block 1 (.seq (.region 0 [
 ⟨0, some 25, .faddr 0 (.t 1), none, []⟩,
 ⟨1, some 26, .load none (.t 25), none, []⟩,
 ⟨2, some 27, .len 1 (.t 26), none, []⟩,
 ⟨3, some 28, .mv (.k (.sc (.int .i64 0))), none, []⟩] false [1, 5, 6, 27, 28])
 (.block 2 (a8s))))
 (.region 0 [
 ⟨0, some 23, .mv (.t 6), none, []⟩,
 ⟨1, some 24, .bin .add (.t 23) (.k (.sc (.int .i64 1))), none, []⟩,
 ⟨2, some 6, .mv (.t 24), none, []⟩] false [1, 5, 6])))
def b2v : AC := .loop [1, 5, 6] a4Z
def a5i : Fn := ⟨1, 40, [(2, none), (3, none), (4, none)],
 (.seq (.region 1 [
 ⟨0, some 1, .box 0 (.t 0), none, []⟩,
 ⟨1, some 2, .mv (.k (.sc (.int .i64 0))), none, []⟩,
 ⟨2, some 3, .mv (.k (.sc (.int .i64 0))), none, []⟩,
 ⟨3, some 4, .mv (.k (.sc (.int .i64 0))), none, []⟩] false [1])
 (.seq (.region 1 [
 ⟨0, some 9, .load (some 10) (.t 1), none, []⟩,
 ⟨1, some 10, .call true (.f 111) [.t 9, .k (.sc (.bool true))], none, []⟩,
 ⟨2, some 8, .mv (.t 10), none, []⟩,
 ⟨3, some 11, .ext (.t 8) 0, none, []⟩,
 ⟨4, some 12, .ext (.t 8) 1, none, []⟩,
 ⟨5, some 5, .alloc 0 [.sl .nil 2 [], .int .i64 0, .int .i64 0, .int .i64 0, .int .i64 0, .int .i64 0, .int .i64 0, .sl .nil 3 [], .sl .nil 2 [], .sl .nil 4 [], .imap true false [], .sl .nil 4 []], none, []⟩,
 ⟨6, none, .store 12 (.t 5) (.t 11), none, []⟩,
 ⟨7, some 4, .mv (.t 12), none, []⟩] false [1, 4, 5])
 (.seq (.seq (.region 0 [
 ⟨0, some 13, .mv (.t 4), none, []⟩,
 ⟨1, some 14, .bin .neq (.t 13) (.k (.sc (.int .i64 0))), none, []⟩] false [1, 4, 5, 14])
 (.cond (.t 14)
 (.seq (.region 0 [
 ⟨0, some 15, .mv (.t 4), none, []⟩,
 ⟨1, some 2, .mv (.k (.sc (.int .i64 0))), none, []⟩,
 ⟨2, some 3, .mv (.k (.sc (.int .i64 0))), none, []⟩,
 ⟨3, some 4, .mv (.t 15), none, []⟩] false [2, 3, 4])
 (.ret))
 (.skip)))
 (.seq (.seq (.region 0 [
 ⟨0, some 16, .load (some 10) (.t 1), none, []⟩,
 ⟨1, some 17, .call true (.f 112) [.t 16], none, []⟩,
 ⟨2, some 6, .mv (.t 17), none, []⟩] false [1, 5, 6])
 (.block 0 (b2v)))
 (.seq (.region 0 [
 ⟨0, some 2, .mv (.k (.sc (.int .i64 0))), none, []⟩,
 ⟨1, some 3, .mv (.k (.sc (.int .i64 0))), none, []⟩,
 ⟨2, some 4, .mv (.k (.sc (.int .i64 4))), none, []⟩] false [2, 3, 4])
 (.ret)))))), false⟩
def a2u : Fn := ⟨3, 33, [(6, some (some 2)), (7, none)],
 (.seq (.region 2 [
 ⟨0, some 3, .box 0 (.t 0), none, []⟩,
 ⟨1, some 6, .alloc 1 [.int .i64 0, .int .i64 0], none, []⟩,
 ⟨2, some 7, .mv (.k (.sc (.int .i64 0))), none, []⟩] false [1, 2, 3, 6])
 (.seq (.region 1 [
 ⟨0, some 11, .load (some 10) (.t 3), none, []⟩,
 ⟨1, some 12, .load (some 10) (.t 3), none, []⟩,
 ⟨2, some 13, .mv (.t 1), none, []⟩,
 ⟨3, some 14, .call true (.f 153) [.t 12, .t 13], none, []⟩,
 ⟨4, some 15, .mv (.t 14), none, []⟩,
 ⟨5, some 16, .load (some 10) (.t 3), some (15, true), []⟩,
 ⟨6, some 17, .mv (.t 2), some (15, true), []⟩,
 ⟨7, some 18, .call true (.f 152) [.t 16, .t 17], some (15, true), []⟩,
 ⟨8, some 19, .pick (.t 15) (.t 18) (.k (.sc (.bool false))), none, []⟩,
 ⟨9, some 20, .call true (.f 111) [.t 11, .t 19], none, []⟩,
 ⟨10, some 10, .mv (.t 20), none, []⟩,
 ⟨11, some 21, .ext (.t 10) 0, none, []⟩,
 ⟨12, some 22, .ext (.t 10) 1, none, []⟩,
 ⟨13, some 8, .alloc 0 [.sl .nil 2 [], .int .i64 0, .int .i64 0, .int .i64 0, .int .i64 0, .int .i64 0, .int .i64 0, .sl .nil 3 [], .sl .nil 2 [], .sl .nil 4 [], .imap true false [], .sl .nil 4 []], none, [0, 1, 5]⟩,
 ⟨14, none, .store 12 (.t 8) (.t 21), none, []⟩,
 ⟨15, some 9, .mv (.t 22), none, []⟩] true [1, 2, 6, 8, 9])
 (.seq (.seq (.region 0 [
 ⟨0, some 23, .mv (.t 9), none, []⟩,
 ⟨1, some 24, .bin .neq (.t 23) (.k (.sc (.int .i64 0))), none, []⟩] false [1, 2, 6, 8, 9, 24])
 (.cond (.t 24)
 (.seq (.region 0 [
 ⟨0, some 25, .build [.int .i64 0, .int .i64 0] [], none, []⟩,
 ⟨1, some 26, .mv (.t 9), none, []⟩,
 ⟨2, none, .store 2 (.t 6) (.t 25), none, []⟩,
 ⟨3, some 7, .mv (.t 26), none, []⟩] false [6, 7])
 (.ret))
 (.skip)))
 (.seq (.region 0 [
 ⟨0, some 27, .load (some 12) (.t 8), none, []⟩,
 ⟨1, some 28, .mv (.t 1), none, []⟩,
 ⟨2, some 29, .mv (.t 2), none, []⟩,
 ⟨3, some 30, .faddr 10 (.t 8), none, []⟩,
 ⟨4, some 31, .load none (.t 30), none, []⟩,
 ⟨5, some 32, .call true (.f 167) [.t 27, .t 28, .t 29, .t 31], none, []⟩,
 ⟨6, none, .store 2 (.t 6) (.t 32), none, []⟩,
 ⟨7, some 7, .mv (.k (.sc (.int .i64 0))), none, []⟩] false [6, 7])
 (.ret))))), false⟩
def a1N : AC :=
 (.seq (.region 0 [
 ⟨0, some 24, .bin .lss (.t 23) (.t 22), none, []⟩] false [1, 6, 22, 23, 24])
 (.seq (.cond (.t 24)
 (.skip)
 (.exit 0))
 (.seq (.block 1 (.seq (.region 0 [
 ⟨0, some 25, .mv (.t 23), none, []⟩,
 ⟨1, some 8, .mv (.t 25), none, []⟩] false [1, 6, 8, 22, 23])
 (.seq (.region 0 [
 ⟨0, some 26, .load (some 12) (.t 6), none, []⟩,
 ⟨1, some 27, .mv (.t 1), none, []⟩,
 ⟨2, some 28, .mv (.t 8), none, []⟩,
 ⟨3, some 29, .faddr 10 (.t 6), none, []⟩,
 ⟨4, some 30, .load none (.t 29), none, []⟩,
 ⟨5, some 31, .call true (.f 146) [.t 26, .t 27, .t 28, .t 30], none, []⟩] false [1, 6, 8, 22, 23, 31])
 (.cond (.t 31)
 (.seq (.region 0 [
 ⟨0, some 32, .mv (.t 8), none, []⟩,
 ⟨1, some 4, .mv (.t 32), none, []⟩,
 ⟨2, some 5, .mv (.k (.sc (.int .i64 0))), none, []⟩] false [4, 5])
 (.ret))
 (.skip)))))
 (.region 0 [
 ⟨0, some 33, .bin .add (.t 23) (.k (.sc (.int .i64 1))), none, []⟩,
 ⟨1, some 23, .mv (.t 33), none, []⟩] false [1, 6, 22, 23]))))
def b1l : AC := .loop [1, 6, 22, 23] a1N
def a1Z : Fn := ⟨2, 34, [(4, none), (5, none)],
 (.seq (.region 1 [
 ⟨0, some 2, .box 0 (.t 0), none, []⟩,
 ⟨1, some 4, .mv (.k (.sc (.int .i64 0))), none, []⟩,
 ⟨2, some 5, .mv (.k (.sc (.int .i64 0))), none, []⟩] false [1, 2])
 (.seq (.region 1 [
 ⟨0, some 10, .load (some 10) (.t 2), none, []⟩,
 ⟨1, some 11, .load (some 10) (.t 2), none, []⟩,
 ⟨2, some 12, .mv (.t 1), none, []⟩,
 ⟨3, some 13, .call true (.f 153) [.t 11, .t 12], none, []⟩,
 ⟨4, some 14, .call true (.f 111) [.t 10, .t 13], none, []⟩,
 ⟨5, some 9, .mv (.t 14), none, []⟩,
 ⟨6, some 15, .ext (.t 9) 0, none, []⟩,
 ⟨7, some 16, .ext (.t 9) 1, none, []⟩,
 ⟨8, some 6, .alloc 0 [.sl .nil 2 [], .int .i64 0, .int .i64 0, .int .i64 0, .int .i64 0, .int .i64 0, .int .i64 0, .sl .nil 3 [], .sl .nil 2 [], .sl .nil 4 [], .imap true false [], .sl .nil 4 []], none, [0, 1]⟩,
 ⟨9, none, .store 12 (.t 6) (.t 15), none, []⟩,
 ⟨10, some 7, .mv (.t 16), none, []⟩] true [1, 2, 6, 7])
 (.seq (.seq (.region 0 [
 ⟨0, some 17, .mv (.t 7), none, []⟩,
 ⟨1, some 18, .bin .neq (.t 17) (.k (.sc (.int .i64 0))), none, []⟩] false [1, 2, 6, 7, 18])
 (.cond (.t 18)
 (.seq (.region 0 [
 ⟨0, some 19, .mv (.t 7), none, []⟩,
 ⟨1, some 4, .mv (.k (.sc (.int .i64 0))), none, []⟩,
 ⟨2, some 5, .mv (.t 19), none, []⟩] false [4, 5])
 (.ret))
 (.skip)))
 (.seq (.seq (.region 0 [
 ⟨0, some 20, .faddr 7 (.t 2), none, []⟩,
 ⟨1, some 21, .load none (.t 20), none, []⟩,
 ⟨2, some 22, .len 1 (.t 21), none, []⟩,
 ⟨3, some 23, .mv (.k (.sc (.int .i64 0))), none, []⟩] false [1, 6, 22, 23])
 (.block 0 (b1l)))
 (.seq (.region 0 [
 ⟨0, some 4, .mv (.k (.sc (.int .i64 0))), none, []⟩,
 ⟨1, some 5, .mv (.k (.sc (.int .i64 4))), none, []⟩] false [4, 5])
 (.ret)))))), false⟩
def a2w : Fn := ⟨3, 15, [(6, none)],
 (.seq (.region 0 [
 ⟨0, some 6, .mv (.k (.sc (.bool false))), none, []⟩] false [0, 1, 2])
 (.seq (.region 0 [
 ⟨0, some 7, .mv (.t 1), none, []⟩,
 ⟨1, some 8, .mv (.t 0), none, []⟩,
 ⟨2, some 9, .bin .leq (.t 7) (.t 8), none, []⟩,
 ⟨3, some 10, .mv (.t 9), none, []⟩,
 ⟨4, some 11, .mv (.t 0), some (10, true), []⟩,
 ⟨5, some 12, .mv (.t 2), some (10, true), []⟩,
 ⟨6, some 13, .bin .leq (.t 11) (.t 12), some (10, true), []⟩,
 ⟨7, some 14, .pick (.t 10) (.t 13) (.k (.sc (.bool false))), none, []⟩,
 ⟨8, some 6, .mv (.t 14), none, []⟩] false [6])
 (.ret))), false⟩
def a6B : Fn := ⟨2, 15, [(4, none), (5, none)],
 (.seq (.region 1 [
 ⟨0, some 2, .box 0 (.t 0), none, []⟩,
 ⟨1, some 4, .mv (.k (.sc (.bool false))), none, []⟩,
 ⟨2, some 5, .mv (.k (.sc (.int .i64 0))), none, []⟩] false [1, 2])
 (.seq (.seq (.region 0 [
 ⟨0, some 7, .load (some 10) (.t 2), none, []⟩,
 ⟨1, some 8, .call true (.f 117) [.t 7], none, []⟩,
 ⟨2, some 6, .mv (.t 8), none, []⟩] false [1, 2, 6])
 (.seq (.region 0 [
 ⟨0, some 9, .mv (.t 6), none, []⟩,
 ⟨1, some 10, .bin .neq (.t 9) (.k (.sc (.int .i64 0))), none, []⟩] false [1, 2, 6, 10])
 (.cond (.t 10)
 (.seq (.region 0 [
 ⟨0, some 11, .mv (.t 6), none, []⟩,
 ⟨1, some 4, .mv (.k (.sc (.bool false))), none, []⟩,
 ⟨2, some 5, .mv (.t 11), none, []⟩] false [4, 5])
 (.ret))
 (.skip))))
 (.seq (.region 0 [
 ⟨0, some 12, .load (some 10) (.t 2), none, []⟩,
 ⟨1, some 13, .mv (.t 1), none, []⟩,
 ⟨2, some 14, .call true (.f 118) [.t 12, .t 13], none, []⟩,
 ⟨3, some 4, .mv (.t 14), none, []⟩,
 ⟨4, some 5, .mv (.k (.sc (.int .i64 0))), none, []⟩] false [4, 5])
 (.ret)))), false⟩
def a1C : AC :=
 (.seq (.region 0 [
 ⟨0, some 35, .bin .lss (.t 34) (.t 33), none, []⟩] false [7, 9, 33, 34, 35])
 (.seq (.cond (.t 35)
 (.skip)
 (.exit 0))
 (.seq (.block 1 (.seq (.region 0 [
 ⟨0, some 36, .mv (.t 34), none, []⟩,
 ⟨1, some 10, .mv (.t 36), none, []⟩] false [7, 9, 10, 33, 34])
 (.seq (.region 0 [
 ⟨0, some 37, .load (some 12) (.t 7), none, []⟩,
 ⟨1, some 38, .mv (.t 10), none, []⟩,
 ⟨2, some 39, .mv (.t 9), none, []⟩,
 ⟨3, some 40, .call true (.f 122) [.t 37, .t 38, .t 39], none, []⟩,
 ⟨4, some 41, .un .not (.t 40), none, []⟩] false [7, 9, 33, 34, 41])
 (.cond (.t 41)
 (.seq (.region 0 [
 ⟨0, some 4, .mv (.k (.sc (.bool false))), none, []⟩,
 ⟨1, some 5, .mv (.k (.sc (.int .i64 0))), none, []⟩] false [4, 5])
 (.ret))
 (.skip)))))
 (.region 0 [
 ⟨0, some 42, .bin .add (.t 34) (.k (.sc (.int .i64 1))), none, []⟩,
 ⟨1, some 34, .mv (.t 42), none, []⟩] false [7, 9, 33, 34]))))
def a9b : AC := .loop [7, 9, 33, 34] a1C
def a1F : Fn := ⟨2, 46, [(4, none), (5, none)],
 (.seq (.region 1 [
 ⟨0, some 2, .box 0 (.t 0), none, []⟩,
 ⟨1, some 4, .mv (.k (.sc (.bool false))), none, []⟩,
 ⟨2, some 5, .mv (.k (.sc (.int .i64 0))), none, []⟩] false [1, 2])
 (.seq (.seq (.region 0 [
 ⟨0, some 11, .load (some 10) (.t 2), none, []⟩,
 ⟨1, some 12, .call true (.f 117) [.t 11], none, []⟩,
 ⟨2, some 6, .mv (.t 12), none, []⟩] false [1, 2, 6])
 (.seq (.region 0 [
 ⟨0, some 13, .mv (.t 6), none, []⟩,
 ⟨1, some 14, .bin .neq (.t 13) (.k (.sc (.int .i64 0))), none, []⟩] false [1, 2, 6, 14])
 (.cond (.t 14)
 (.seq (.region 0 [
 ⟨0, some 15, .mv (.t 6), none, []⟩,
 ⟨1, some 4, .mv (.k (.sc (.bool false))), none, []⟩,
 ⟨2, some 5, .mv (.t 15), none, []⟩] false [4, 5])
 (.ret))
 (.skip))))
 (.seq (.region 1 [
 ⟨0, some 17, .load (some 10) (.t 2), none, []⟩,
 ⟨1, some 18, .load (some 10) (.t 2), none, []⟩,
 ⟨2, some 19, .mv (.t 1), none, []⟩,
 ⟨3, some 20, .call true (.f 118) [.t 18, .t 19], none, []⟩,
 ⟨4, some 21, .call true (.f 111) [.t 17, .t 20], none, []⟩,
 ⟨5, some 16, .mv (.t 21), none, []⟩,
 ⟨6, some 22, .ext (.t 16) 0, none, []⟩,
 ⟨7, some 23, .ext (.t 16) 1, none, []⟩,
 ⟨8, some 7, .alloc 0 [.sl .nil 2 [], .int .i64 0, .int .i64 0, .int .i64 0, .int .i64 0, .int .i64 0, .int .i64 0, .sl .nil 3 [], .sl .nil 2 [], .sl .nil 4 [], .imap true false [], .sl .nil 4 []], none, [0, 1]⟩,
 ⟨9, none, .store 12 (.t 7) (.t 22), none, []⟩,
 ⟨10, some 8, .mv (.t 23), none, []⟩] true [1, 2, 7, 8])
 (.seq (.seq (.region 0 [
 ⟨0, some 24, .mv (.t 8), none, []⟩,
 ⟨1, some 25, .bin .neq (.t 24) (.k (.sc (.int .i64 0))), none, []⟩] false [1, 2, 7, 8, 25])
 (.cond (.t 25)
 (.seq (.region 0 [
 ⟨0, some 26, .mv (.t 8), none, []⟩,
 ⟨1, some 4, .mv (.k (.sc (.bool false))), none, []⟩,
 ⟨2, some 5, .mv (.t 26), none, []⟩] false [4, 5])
 (.ret))
 (.skip)))
 (.seq (.region 0 [
 ⟨0, some 27, .faddr 10 (.t 7), none, []⟩,
 ⟨1, some 28, .load none (.t 27), none, []⟩,
 ⟨2, some 29, .mv (.t 1), none, []⟩,
 ⟨3, some 30, .call true (.f 121) [.t 28, .t 29], none, []⟩,
 ⟨4, some 9, .mv (.t 30), none, []⟩] false [2, 7, 9])
 (.seq (.seq (.region 0 [
 ⟨0, some 31, .faddr 0 (.t 2), none, []⟩,
 ⟨1, some 32, .load none (.t 31), none, []⟩,
 ⟨2, some 33, .len 1 (.t 32), none, []⟩,
 ⟨3, some 34, .mv (.k (.sc (.int .i64 0))), none, []⟩] false [7, 9, 33, 34])
 (.block 0 (a9b)))
 (.seq (.region 0 [
 ⟨0, some 43, .load (some 12) (.t 7), none, []⟩,
 ⟨1, some 44, .mv (.t 9), none, []⟩,
 ⟨2, some 45, .call true (.f 123) [.t 43, .t 44], none, []⟩,
 ⟨3, some 4, .mv (.t 45), none, []⟩,
 ⟨4, some 5, .mv (.k (.sc (.int .i64 0))), none, []⟩] false [4, 5])
 (.ret)))))))), false⟩
def a6x : AC :=
 (.seq (.region 0 [
 ⟨0, some 40, .bin .lss (.t 39) (.t 38), none, []⟩] false [1, 3, 37, 38, 39, 40])
 (.seq (.cond (.t 40)
 (.skip)
 (.exit 0))
 (.seq (.block 1 (.seq (.region 1 [
 ⟨0, some 41, .iaddr 2 (.t 37) (.t 39), none, []⟩,
 ⟨1, some 42, .load (some 2) (.t 41), none, []⟩,
 ⟨2, some 5, .alloc 0 [.int .i64 0, .int .i64 0], none, []⟩,
 ⟨3, none, .store 2 (.t 5) (.t 42), none, []⟩] false [1, 3, 5, 37, 38, 39])
 (.region 0 [
 ⟨0, some 43, .mv (.t 3), none, []⟩,
 ⟨1, some 44, .mv (.t 43), none, []⟩,
 ⟨2, some 45, .load (some 2) (.t 5), some (44, true), []⟩,
 ⟨3, some 46, .call true (.f 151) [.t 45, .k (.sc (.int .i64 30)), .k (.sc (.int .i64 2))], some (44, true), []⟩,
 ⟨4, some 47, .pick (.t 44) (.t 46) (.k (.sc (.bool false))), none, []⟩,
 ⟨5, some 3, .mv (.t 47), none, []⟩] false [1, 3, 37, 38, 39])))
 (.region 0 [
 ⟨0, some 48, .bin .add (.t 39) (.k (.sc (.int .i64 1))), none, []⟩,
 ⟨1, some 39, .mv (.t 48), none, []⟩] false [1, 3, 37, 38, 39]))))
def a8n : AC := .loop [1, 3, 37, 38, 39] a6x
def a3T : AC :=
 (.seq (.region 0 [
 ⟨0, some 52, .bin .lss (.t 51) (.k (.sc (.int .i64 3))), none, []⟩] false [1, 3, 50, 51, 52])
 (.seq (.cond (.t 52)
 (.skip)
 (.exit 2))
 (.seq (.block 3 (.seq (.region 1 [
 ⟨0, some 53, .index 3 2 (some 2) (.t 50) (.t 51), none, []⟩,
 ⟨1, some 7, .alloc 0 [.int .i64 0, .int .i64 0], none, []⟩,
 ⟨2, none, .store 2 (.t 7) (.t 53), none, []⟩] false [1, 3, 7, 50, 51])
 (.region 0 [
 ⟨0, some 54, .mv (.t 3), none, []⟩,
 ⟨1, some 55, .mv (.t 54), none, []⟩,
 ⟨2, some 56, .load (some 2) (.t 7), some (55, true), []⟩,
 ⟨3, some 57, .call true (.f 151) [.t 56, .k (.sc (.int .i64 6)), .k (.sc (.int .i64 1))], some (55, true), []⟩,
 ⟨4, some 58, .pick (.t 55) (.t 57) (.k (.sc (.bool false))), none, []⟩,
 ⟨5, some 3, .mv (.t 58), none, []⟩] false [1, 3, 50, 51])))
 (.region 0 [
 ⟨0, some 59, .bin .add (.t 51) (.k (.sc (.int .i64 1))), none, []⟩,
 ⟨1, some 51, .mv (.t 59), none, []⟩] false [1, 3, 50, 51]))))
def a3f : AC := .loop [1, 3, 50, 51] a3T
def a6y : AC :=
 (.seq (.region 0 [
 ⟨0, some 64, .bin .lss (.t 63) (.t 62), none, []⟩] false [1, 3, 61, 62, 63, 64])
 (.seq (.cond (.t 64)
 (.skip)
 (.exit 4))
 (.seq (.block 5 (.seq (.region 1 [
 ⟨0, some 65, .iaddr 3 (.t 61) (.t 63), none, []⟩,
 ⟨1, some 66, .load (some 3) (.t 65), none, []⟩,
 ⟨2, some 9, .alloc 0 [.int .i64 0, .int .i64 0, .int .i64 0], none, []⟩,
 ⟨3, none, .store 3 (.t 9) (.t 66), none, []⟩] false [1, 3, 9, 61, 62, 63])
 (.region 0 [
 ⟨0, some 67, .mv (.t 3), none, []⟩,
 ⟨1, some 68, .mv (.t 67), none, []⟩,
 ⟨2, some 69, .faddr 0 (.t 9), some (68, true), []⟩,
 ⟨3, some 70, .load none (.t 69), some (68, true), []⟩,
 ⟨4, some 71, .call true (.f 150) [.t 70, .k (.sc (.int .i64 0)), .k (.sc (.int .i64 2))], some (68, true), []⟩,
 ⟨5, some 72, .pick (.t 68) (.t 71) (.k (.sc (.bool false))), none, []⟩,
 ⟨6, some 73, .mv (.t 72), none, []⟩,
 ⟨7, some 74, .faddr 1 (.t 9), some (73, true), []⟩,
 ⟨8, some 75, .load none (.t 74), some (73, true), []⟩,
 ⟨9, some 76, .call true (.f 150) [.t 75, .k (.sc (.int .i64 0)), .k (.sc (.int .i64 2))], some (73, true), []⟩,
 ⟨10, some 77, .pick (.t 73) (.t 76) (.k (.sc (.bool false))), none, []⟩,
 ⟨11, some 78, .mv (.t 77), none, []⟩,
 ⟨12, some 79, .faddr 2 (.t 9), some (78, true), []⟩,
 ⟨13, some 80, .load none (.t 79), some (78, true), []⟩,
 ⟨14, some 81, .call true (.f 150) [.t 80, .k (.sc (.int .i64 0)), .k (.sc (.int .i64 3))], some (78, true), []⟩,
 ⟨15, some 82, .pick (.t 78) (.t 81) (.k (.sc (.bool false))), none, []⟩,
 ⟨16, some 3, .mv (.t 82), none, []⟩] false [1, 3, 61, 62, 63])))
 (.region 0 [
 ⟨0, some 83, .bin .add (.t 63) (.k (.sc (.int .i64 1))), none, []⟩,
 ⟨1, some 63, .mv (.t 83), none, []⟩] false [1, 3, 61, 62, 63]))))
def a8o : AC := .loop [1, 3, 61, 62, 63] a6y
def a6z : AC :=
 (.seq (.region 0 [
 ⟨0, some 88, .bin .lss (.t 87) (.t 86), none, []⟩] false [1, 3, 85, 86, 87, 88])
 (.seq (.cond (.t 88)
 (.skip)
 (.exit 6))
 (.seq (.block 7 (.seq (.region 1 [
 ⟨0, some 89, .iaddr 2 (.t 85) (.t 87), none, []⟩,
 ⟨1, some 90, .load (some 2) (.t 89), none, []⟩,
 ⟨2, some 11, .alloc 0 [.int .i64 0, .int .i64 0], none, []⟩,
 ⟨3, none, .store 2 (.t 11) (.t 90), none, []⟩] false [1, 3, 11, 85, 86, 87])
 (.region 0 [
 ⟨0, some 91, .mv (.t 3), none, []⟩,
 ⟨1, some 92, .mv (.t 91), none, []⟩,
 ⟨2, some 93, .load (some 10) (.t 1), some (92, true), []⟩,
 ⟨3, some 94, .faddr 0 (.t 11), some (92, true), []⟩,
 ⟨4, some 95, .load none (.t 94), some (92, true), []⟩,
 ⟨5, some 96, .call true (.f 152) [.t 93, .t 95], some (92, true), []⟩,
 ⟨6, some 97, .pick (.t 92) (.t 96) (.k (.sc (.bool false))), none, []⟩,
 ⟨7, some 98, .mv (.t 97), none, []⟩,
 ⟨8, some 99, .load (some 10) (.t 1), some (98, true), []⟩,
 ⟨9, some 100, .faddr 1 (.t 11), some (98, true), []⟩,
 ⟨10, some 101, .load none (.t 100), some (98, true), []⟩,
 ⟨11, some 102, .call true (.f 153) [.t 99, .t 101], some (98, true), []⟩,
 ⟨12, some 103, .pick (.t 98) (.t 102) (.k (.sc (.bool false))), none, []⟩,
 ⟨13, some 3, .mv (.t 103), none, []⟩] false [1, 3, 85, 86, 87])))
 (.region 0 [
 ⟨0, some 104, .bin .add (.t 87) (.k (.sc (.int .i64 1))), none, []⟩,
 ⟨1, some 87, .mv (.t 104), none, []⟩] false [1, 3, 85, 86, 87]))))
def a8p : AC := .loop [1, 3, 85, 86, 87] a6z
def a6A : AC :=
 (.seq (.region 0 [
 ⟨0, some 109, .bin .lss (.t 108) (.t 107), none, []⟩] false [1, 3, 106, 107, 108, 109])
 (.seq (.cond (.t 109)
 (.skip)
 (.exit 8))
 (.seq (.block 9 (.seq (.region 1 [
 ⟨0, some 110, .iaddr 4 (.t 106) (.t 108), none, []⟩,
 ⟨1, some 111, .load (some 4) (.t 110), none, []⟩,
 ⟨2, some 13, .alloc 0 [.int .i64 0, .int .i64 0, .int .i64 0, .int .i64 0], none, []⟩,
 ⟨3, none, .store 4 (.t 13) (.t 111), none, []⟩] false [1, 3, 13, 106, 107, 108])
 (.region 0 [
 ⟨0, some 112, .mv (.t 3), none, []⟩,
 ⟨1, some 113, .mv (.t 112), none, []⟩,
 ⟨2, some 114, .load (some 10) (.t 1), some (113, true), []⟩,
 ⟨3, some 115, .load (some 4) (.t 13), some (113, true), []⟩,
 ⟨4, some 116, .call true (.f 154) [.t 114, .t 115], some (113, true), []⟩,
 ⟨5, some 117, .pick (.t 113) (.t 116) (.k (.sc (.bool false))), none, []⟩,
 ⟨6, some 3, .mv (.t 117), none, []⟩] false [1, 3, 106, 107, 108])))
 (.region 0 [
 ⟨0, some 118, .bin .add (.t 108) (.k (.sc (.int .i64 1))), none, []⟩,
 ⟨1, some 108, .mv (.t 118), none, []⟩] false [1, 3, 106, 107, 108]))))
def a8q : AC := .loop [1, 3, 106, 107, 108] a6A
def a6w : Fn := ⟨1, 121, [(2, none)],
 (.seq (.region 1 [
 ⟨0, some 1, .box 0 (.t 0), none, []⟩,
 ⟨1, some 2, .mv (.k (.sc (.int .i64 0))), none, []⟩] false [1])
 (.seq (.region 0 [
 ⟨0, some 14, .faddr 0 (.t 1), none, []⟩,
 ⟨1, some 15, .load none (.t 14), none, []⟩,
 ⟨2, some 16, .len 1 (.t 15), none, []⟩,
 ⟨3, some 17, .call true (.f 150) [.t 16, .k (.sc (.int .i64 1)), .k (.sc (.int .i64 3))], none, []⟩,
 ⟨4, some 18, .mv (.t 17), none, []⟩,
 ⟨5, some 19, .faddr 7 (.t 1), some (18, true), []⟩,
 ⟨6, some 20, .load none (.t 19), some (18, true), []⟩,
 ⟨7, some 21, .len 1 (.t 20), some (18, true), []⟩,
 ⟨8, some 22, .call true (.f 150) [.t 21, .k (.sc (.int .i64 1)), .k (.sc (.int .i64 5))], some (18, true), []⟩,
 ⟨9, some 23, .pick (.t 18) (.t 22) (.k (.sc (.bool false))), none, []⟩,
 ⟨10, some 24, .mv (.t 23), none, []⟩,
 ⟨11, some 25, .faddr 8 (.t 1), some (24, true), []⟩,
 ⟨12, some 26, .load none (.t 25), some (24, true), []⟩,
 ⟨13, some 27, .len 1 (.t 26), some (24, true), []⟩,
 ⟨14, some 28, .bin .leq (.t 27) (.k (.sc (.int .i64 6))), some (24, true), []⟩,
 ⟨15, some 29, .pick (.t 24) (.t 28) (.k (.sc (.bool false))), none, []⟩,
 ⟨16, some 30, .mv (.t 29), none, []⟩,
 ⟨17, some 31, .faddr 9 (.t 1), some (30, true), []⟩,
 ⟨18, some 32, .load none (.t 31), some (30, true), []⟩,
 ⟨19, some 33, .len 1 (.t 32), some (30, true), []⟩,
 ⟨20, some 34, .bin .leq (.t 33) (.k (.sc (.int .i64 4))), some (30, true), []⟩,
 ⟨21, some 35, .pick (.t 30) (.t 34) (.k (.sc (.bool false))), none, []⟩,
 ⟨22, some 3, .mv (.t 35), none, []⟩] false [1, 3])
 (.seq (.seq (.region 0 [
 ⟨0, some 36, .faddr 0 (.t 1), none, []⟩,
 ⟨1, some 37, .load none (.t 36), none, []⟩,
 ⟨2, some 38, .len 1 (.t 37), none, []⟩,
 ⟨3, some 39, .mv (.k (.sc (.int .i64 0))), none, []⟩] false [1, 3, 37, 38, 39])
 (.block 0 (a8n)))
 (.seq (.seq (.region 0 [
 ⟨0, some 49, .faddr 1 (.t 1), none, []⟩,
 ⟨1, some 50, .load (some 6) (.t 49), none, []⟩,
 ⟨2, some 51, .mv (.k (.sc (.int .i64 0))), none, []⟩] false [1, 3, 50, 51])
 (.block 2 (a3f)))
 (.seq (.seq (.region 0 [
 ⟨0, some 60, .faddr 7 (.t 1), none, []⟩,
 ⟨1, some 61, .load none (.t 60), none, []⟩,
 ⟨2, some 62, .len 1 (.t 61), none, []⟩,
 ⟨3, some 63, .mv (.k (.sc (.int .i64 0))), none, []⟩] false [1, 3, 61, 62, 63])
 (.block 4 (a8o)))
 (.seq (.seq (.region 0 [
 ⟨0, some 84, .faddr 8 (.t 1), none, []⟩,
 ⟨1, some 85, .load none (.t 84), none, []⟩,
 ⟨2, some 86, .len 1 (.t 85), none, []⟩,
 ⟨3, some 87, .mv (.k (.sc (.int .i64 0))), none, []⟩] false [1, 3, 85, 86, 87])
 (.block 6 (a8p)))
 (.seq (.seq (.region 0 [
 ⟨0, some 105, .faddr 9 (.t 1), none, []⟩,
 ⟨1, some 106, .load none (.t 105), none, []⟩,
 ⟨2, some 107, .len 1 (.t 106), none, []⟩,
 ⟨3, some 108, .mv (.k (.sc (.int .i64 0))), none, []⟩] false [1, 3, 106, 107, 108])
 (.block 8 (a8q)))
 (.seq (.seq (.region 0 [
 ⟨0, some 119, .mv (.t 3), none, []⟩,
 ⟨1, some 120, .un .not (.t 119), none, []⟩] false [120])
 (.cond (.t 120)
 (.seq (.region 0 [
 ⟨0, some 2, .mv (.k (.sc (.int .i64 40))), none, []⟩] false [2])
 (.ret))
 (.skip)))
 (.seq (.region 0 [
 ⟨0, some 2, .mv (.k (.sc (.int .i64 0))), none, []⟩] false [2])
 (.ret)))))))))), false⟩
def d4x : AC :=
 (.seq (.seq (.region 0 [
 ⟨0, some 32, .mv (.t 3), none, []⟩,
 ⟨1, some 33, .mv (.t 32), none, []⟩,
 ⟨2, some 34, .mv (.t 4), some (33, true), []⟩,
 ⟨3, some 35, .faddr 0 (.t 1), some (33, true), []⟩,
 ⟨4, some 36, .load none (.t 35), some (33, true), []⟩,
 ⟨5, some 37, .len 1 (.t 36), some (33, true), []⟩,
 ⟨6, some 38, .bin .lss (.t 34) (.t 37), some (33, true), []⟩,
 ⟨7, some 39, .pick (.t 33) (.t 38) (.k (.sc (.bool false))), none, []⟩] false [1, 3, 4, 39])
 (.cond (.t 39)
 (.skip)
 (.exit 0)))
 (.seq (.block 1 (.region 0 [
 ⟨0, some 42, .faddr 0 (.t 1), none, []⟩,
 ⟨1, some 43, .load none (.t 42), none, []⟩,
 ⟨2, some 44, .mv (.t 4), none, []⟩,
 ⟨3, some 45, .iaddr 2 (.t 43) (.t 44), none, []⟩,
 ⟨4, some 46, .load (some 2) (.t 45), none, []⟩,
 ⟨5, some 47, .call true (.f 49) [.t 46, .k (.sc (.int .i64 0)), .k (.sc (.int .i64 30)), .k (.sc (.int .i64 2))], none, []⟩,
 ⟨6, some 3, .mv (.t 47), none, []⟩] false [1, 3, 4]))
 (.region 0 [
 ⟨0, some 40, .mv (.t 4), none, []⟩,
 ⟨1, some 41, .bin .add (.t 40) (.k (.sc (.int .i64 1))), none, []⟩,
 ⟨2, some 4, .mv (.t 41), none, []⟩] false [1, 3, 4])))
def d4B : AC := .loop [1, 3, 4] d4x
def d4y : AC :=
 (.seq (.seq (.region 0 [
 ⟨0, some 48, .mv (.t 3), none, []⟩,
 ⟨1, some 49, .mv (.t 48), none, []⟩,
 ⟨2, some 50, .mv (.t 5), some (49, true), []⟩,
 ⟨3, some 51, .bin .lss (.t 50) (.k (.sc (.int .i64 3))), some (49, true), []⟩,
 ⟨4, some 52, .pick (.t 49) (.t 51) (.k (.sc (.bool false))), none, []⟩] false [1, 3, 5, 52])
 (.cond (.t 52)
 (.skip)
 (.exit 2)))
 (.seq (.block 3 (.region 0 [
 ⟨0, some 55, .mv (.t 5), none, []⟩,
 ⟨1, some 56, .faddr 1 (.t 1), none, []⟩,
 ⟨2, some 57, .iarr 3 2 (.t 56) (.t 55), none, []⟩,
 ⟨3, some 58, .load (some 2) (.t 57), none, []⟩,
 ⟨4, some 59, .call true (.f 49) [.t 58, .k (.sc (.int .i64 0)), .k (.sc (.int .i64 6)), .k (.sc (.int .i64 1))], none, []⟩,
 ⟨5, some 3, .mv (.t 59), none, []⟩] false [1, 3, 5]))
 (.region 0 [
 ⟨0, some 53, .mv (.t 5), none, []⟩,
 ⟨1, some 54, .bin .add (.t 53) (.k (.sc (.int .i64 1))), none, []⟩,
 ⟨2, some 5, .mv (.t 54), none, []⟩] false [1, 3, 5])))
def d4C : AC := .loop [1, 3, 5] d4y
def d4v : AC :=
 (.seq (.seq (.region 0 [
 ⟨0, some 60, .mv (.t 3), none, []⟩,
 ⟨1, some 61, .mv (.t 60), none, []⟩,
 ⟨2, some 62, .mv (.t 6), some (61, true), []⟩,
 ⟨3, some 63, .faddr 7 (.t 1), some (61, true), []⟩,
 ⟨4, some 64, .load none (.t 63), some (61, true), []⟩,
 ⟨5, some 65, .len 1 (.t 64), some (61, true), []⟩,
 ⟨6, some 66, .bin .lss (.t 62) (.t 65), some (61, true), []⟩,
 ⟨7, some 67, .pick (.t 61) (.t 66) (.k (.sc (.bool false))), none, []⟩] false [1, 3, 6, 67])
 (.cond (.t 67)
 (.skip)
 (.exit 4)))
 (.seq (.block 5 (.seq (.region 1 [
 ⟨0, some 70, .faddr 7 (.t 1), none, []⟩,
 ⟨1, some 71, .load none (.t 70), none, []⟩,
 ⟨2, some 72, .mv (.t 6), none, []⟩,
 ⟨3, some 73, .iaddr 3 (.t 71) (.t 72), none, []⟩,
 ⟨4, some 74, .load (some 3) (.t 73), none, []⟩,
 ⟨5, some 7, .alloc 0 [.int .i64 0, .int .i64 0, .int .i64 0], none, []⟩,
 ⟨6, none, .store 3 (.t 7) (.t 74), none, []⟩] false [1, 6, 7])
 (.region 0 [
 ⟨0, some 75, .faddr 0 (.t 7), none, []⟩,
 ⟨1, some 76, .load none (.t 75), none, []⟩,
 ⟨2, some 77, .call true (.f 29) [.t 76, .k (.sc (.int .i64 0)), .k (.sc (.int .i64 2))], none, []⟩,
 ⟨3, some 78, .mv (.t 77), none, []⟩,
 ⟨4, some 79, .faddr 1 (.t 7), some (78, true), []⟩,
 ⟨5, some 80, .load none (.t 79), some (78, true), []⟩,
 ⟨6, some 81, .call true (.f 29) [.t 80, .k (.sc (.int .i64 0)), .k (.sc (.int .i64 2))], some (78, true), []⟩,
 ⟨7, some 82, .pick (.t 78) (.t 81) (.k (.sc (.bool false))), none, []⟩,
 ⟨8, some 83, .mv (.t 82), none, []⟩,
 ⟨9, some 84, .faddr 2 (.t 7), some (83, true), []⟩,
 ⟨10, some 85, .load none (.t 84), some (83, true), []⟩,
 ⟨11, some 86, .call true (.f 29) [.t 85, .k (.sc (.int .i64 0)), .k (.sc (.int .i64 3))], some (83, true), []⟩,
 ⟨12, some 87, .pick (.t 83) (.t 86) (.k (.sc (.bool false))), none, []⟩,
 ⟨13, some 3, .mv (.t 87), none, []⟩] false [1, 3, 6])))
 (.region 0 [
 ⟨0, some 68, .mv (.t 6), none, []⟩,
 ⟨1, some 69, .bin .add (.t 68) (.k (.sc (.int .i64 1))), none, []⟩,
 ⟨2, some 6, .mv (.t 69), none, []⟩] false [1, 3, 6])))
def d4D : AC := .loop [1, 3, 6] d4v
def d4w : AC :=
 (.seq (.seq (.region 0 [
 ⟨0, some 88, .mv (.t 3), none, []⟩,
 ⟨1, some 89, .mv (.t 88), none, []⟩,
 ⟨2, some 90, .mv (.t 8), some (89, true), []⟩,
 ⟨3, some 91, .faddr 8 (.t 1), some (89, true), []⟩,
 ⟨4, some 92, .load none (.t 91), some (89, true), []⟩,
 ⟨5, some 93, .len 1 (.t 92), some (89, true), []⟩,
 ⟨6, some 94, .bin .lss (.t 90) (.t 93), some (89, true), []⟩,
 ⟨7, some 95, .pick (.t 89) (.t 94) (.k (.sc (.bool false))), none, []⟩] false [1, 3, 8, 95])
 (.cond (.t 95)
 (.skip)
 (.exit 6)))
 (.seq (.block 7 (.region 0 [
 ⟨0, some 98, .load (some 10) (.t 1), none, []⟩,
 ⟨1, some 99, .faddr 8 (.t 1), none, []⟩,
 ⟨2, some 100, .load none (.t 99), none, []⟩,
 ⟨3, some 101, .mv (.t 8), none, []⟩,
 ⟨4, some 102, .iaddr 2 (.t 100) (.t 101), none, []⟩,
 ⟨5, some 103, .faddr 0 (.t 102), none, []⟩,
 ⟨6, some 104, .load none (.t 103), none, []⟩,
 ⟨7, some 105, .call true (.f 156) [.t 98, .t 104], none, []⟩,
 ⟨8, some 106, .mv (.t 105), none, []⟩,
 ⟨9, some 107, .load (some 10) (.t 1), some (106, true), []⟩,
 ⟨10, some 108, .faddr 8 (.t 1), some (106, true), []⟩,
 ⟨11, some 109, .load none (.t 108), some (106, true), []⟩,
 ⟨12, some 110, .mv (.t 8), some (106, true), []⟩,
 ⟨13, some 111, .iaddr 2 (.t 109) (.t 110), some (106, true), []⟩,
 ⟨14, some 112, .faddr 1 (.t 111), some (106, true), []⟩,
 ⟨15, some 113, .load none (.t 112), some (106, true), []⟩,
 ⟨16, some 114, .call true (.f 157) [.t 107, .t 113], some (106, true), []⟩,
 ⟨17, some 115, .pick (.t 106) (.t 114) (.k (.sc (.bool false))), none, []⟩,
 ⟨18, some 3, .mv (.t 115), none, []⟩] true [1, 3, 8]))
 (.region 0 [
 ⟨0, some 96, .mv (.t 8), none, []⟩,
 ⟨1, some 97, .bin .add (.t 96) (.k (.sc (.int .i64 1))), none, []⟩,
 ⟨2, some 8, .mv (.t 97), none, []⟩] false [1, 3, 8])))
def d4E : AC := .loop [1, 3, 8] d4w
def d4z : AC :=
 (.seq (.seq (.region 0 [
 ⟨0, some 116, .mv (.t 3), none, []⟩,
 ⟨1, some 117, .mv (.t 116), none, []⟩,
 ⟨2, some 118, .mv (.t 9), some (117, true), []⟩,
 ⟨3, some 119, .faddr 9 (.t 1), some (117, true), []⟩,
 ⟨4, some 120, .load none (.t 119), some (117, true), []⟩,
 ⟨5, some 121, .len 1 (.t 120), some (117, true), []⟩,
 ⟨6, some 122, .bin .lss (.t 118) (.t 121), some (117, true), []⟩,
 ⟨7, some 123, .pick (.t 117) (.t 122) (.k (.sc (.bool false))), none, []⟩] false [1, 3, 9, 123])
 (.cond (.t 123)
 (.skip)
 (.exit 8)))
 (.seq (.block 9 (.region 0 [
 ⟨0, some 126, .load (some 10) (.t 1), none, []⟩,
 ⟨1, some 127, .faddr 9 (.t 1), none, []⟩,
 ⟨2, some 128, .load none (.t 127), none, []⟩,
 ⟨3, some 129, .mv (.t 9), none, []⟩,
 ⟨4, some 130, .iaddr 4 (.t 128) (.t 129), none, []⟩,
 ⟨5, some 131, .load (some 4) (.t 130), none, []⟩,
 ⟨6, some 132, .call true (.f 158) [.t 126, .t 131], none, []⟩,
 ⟨7, some 3, .mv (.t 132), none, []⟩] true [1, 3, 9]))
 (.region 0 [
 ⟨0, some 124, .mv (.t 9), none, []⟩,
 ⟨1, some 125, .bin .add (.t 124) (.k (.sc (.int .i64 1))), none, []⟩,
 ⟨2, some 9, .mv (.t 125), none, []⟩] false [1, 3, 9])))
def d4F : AC := .loop [1, 3, 9] d4z
def d4H : Fn := ⟨1, 135, [(2, none)],
 (.seq (.region 1 [
 ⟨0, some 1, .box 0 (.t 0), none, []⟩,
 ⟨1, some 2, .mv (.k (.sc (.int .i64 0))), none, []⟩] false [1])
 (.seq (.region 0 [
 ⟨0, some 10, .faddr 0 (.t 1), none, []⟩,
 ⟨1, some 11, .load none (.t 10), none, []⟩,
 ⟨2, some 12, .len 1 (.t 11), none, []⟩,
 ⟨3, some 13, .call true (.f 29) [.t 12, .k (.sc (.int .i64 1)), .k (.sc (.int .i64 3))], none, []⟩,
 ⟨4, some 14, .mv (.t 13), none, []⟩,
 ⟨5, some 15, .faddr 7 (.t 1), some (14, true), []⟩,
 ⟨6, some 16, .load none (.t 15), some (14, true), []⟩,
 ⟨7, some 17, .len 1 (.t 16), some (14, true), []⟩,
 ⟨8, some 18, .call true (.f 29) [.t 17, .k (.sc (.int .i64 1)), .k (.sc (.int .i64 5))], some (14, true), []⟩,
 ⟨9, some 19, .pick (.t 14) (.t 18) (.k (.sc (.bool false))), none, []⟩,
 ⟨10, some 20, .mv (.t 19), none, []⟩,
 ⟨11, some 21, .faddr 8 (.t 1), some (20, true), []⟩,
 ⟨12, some 22, .load none (.t 21), some (20, true), []⟩,
 ⟨13, some 23, .len 1 (.t 22), some (20, true), []⟩,
 ⟨14, some 24, .bin .leq (.t 23) (.k (.sc (.int .i64 6))), some (20, true), []⟩,
 ⟨15, some 25, .pick (.t 20) (.t 24) (.k (.sc (.bool false))), none, []⟩,
 ⟨16, some 26, .mv (.t 25), none, []⟩,
 ⟨17, some 27, .faddr 9 (.t 1), some (26, true), []⟩,
 ⟨18, some 28, .load none (.t 27), some (26, true), []⟩,
 ⟨19, some 29, .len 1 (.t 28), some (26, true), []⟩,
 ⟨20, some 30, .bin .leq (.t 29) (.k (.sc (.int .i64 4))), some (26, true), []⟩,
 ⟨21, some 31, .pick (.t 26) (.t 30) (.k (.sc (.bool false))), none, []⟩,
 ⟨22, some 3, .mv (.t 31), none, []⟩] false [1, 3])
 (.seq (.seq (.region 0 [
 ⟨0, some 4, .mv (.k (.sc (.int .i64 0))), none, []⟩] false [1, 3, 4])
 (.block 0 (d4B)))
 (.seq (.seq (.region 0 [
 ⟨0, some 5, .mv (.k (.sc (.int .i64 0))), none, []⟩] false [1, 3, 5])
 (.block 2 (d4C)))
 (.seq (.seq (.region 0 [
 ⟨0, some 6, .mv (.k (.sc (.int .i64 0))), none, []⟩] false [1, 3, 6])
 (.block 4 (d4D)))
 (.seq (.seq (.region 0 [
 ⟨0, some 8, .mv (.k (.sc (.int .i64 0))), none, []⟩] false [1, 3, 8])
 (.block 6 (d4E)))
 (.seq (.seq (.region 0 [
 ⟨0, some 9, .mv (.k (.sc (.int .i64 0))), none, []⟩] false [1, 3, 9])
 (.block 8 (d4F)))
 (.seq (.seq (.region 0 [
 ⟨0, some 133, .mv (.t 3), none, []⟩,
 ⟨1, some 134, .un .not (.t 133), none, []⟩] false [134])
 (.cond (.t 134)
 (.seq (.region 0 [
 ⟨0, some 2, .mv (.k (.sc (.int .i64 40))), none, []⟩] false [2])
 (.ret))
 (.skip)))
 (.seq (.region 0 [
 ⟨0, some 2, .mv (.k (.sc (.int .i64 0))), none, []⟩] false [2])
 (.ret)))))))))), false⟩
def a2e : AC :=
 (.seq (.region 0 [
 ⟨0, some 37, .bin .lss (.t 36) (.t 35), none, []⟩] false [1, 4, 9, 34, 35, 36, 37])
 (.seq (.cond (.t 37)
 (.skip)
 (.exit 0))
 (.seq (.block 1 (.seq (.region 1 [
 ⟨0, some 38, .iaddr 4 (.t 34) (.t 36), none, []⟩,
 ⟨1, some 39, .load (some 4) (.t 38), none, []⟩,
 ⟨2, some 11, .alloc 0 [.int .i64 0, .int .i64 0, .int .i64 0, .sl .nil 1 []], none, []⟩,
 ⟨3, none, .store 4 (.t 11) (.t 39), none, []⟩] false [1, 4, 9, 11, 34, 35, 36])
 (.region 0 [
 ⟨0, some 40, .faddr 0 (.t 9), none, []⟩,
 ⟨1, some 41, .load none (.t 40), none, []⟩,
 ⟨2, some 42, .mv (.t 1), none, []⟩,
 ⟨3, some 43, .faddr 0 (.t 11), none, []⟩,
 ⟨4, some 44, .iarr 3 1 (.t 43) (.t 42), none, []⟩,
 ⟨5, some 45, .load none (.t 44), none, []⟩,
 ⟨6, some 46, .bslice 1 1 [.int .i64 0] [(0, .t 45)], none, []⟩,
 ⟨7, some 47, .call true (.f 169) [.t 41, .t 46], none, []⟩,
 ⟨8, some 48, .faddr 1 (.t 9), none, []⟩,
 ⟨9, some 49, .load none (.t 48), none, []⟩,
 ⟨10, some 50, .mv (.t 1), none, []⟩,
 ⟨11, some 51, .faddr 0 (.t 11), none, []⟩,
 ⟨12, some 52, .iarr 3 1 (.t 51) (.t 50), none, []⟩,
 ⟨13, some 53, .load none (.t 52), none, []⟩,
 ⟨14, some 54, .max (.t 49) [.t 53], none, []⟩,
 ⟨15, some 55, .build [.int .i64 0, .int .i64 0] [(0, 1, .t 47), (1, 1, .t 54)], none, []⟩,
 ⟨16, none, .store 2 (.t 9) (.t 55), none, []⟩] true [1, 4, 9, 34, 35, 36])))
 (.region 0 [
 ⟨0, some 56, .bin .add (.t 36) (.k (.sc (.int .i64 1))), none, []⟩,
 ⟨1, some 36, .mv (.t 56), none, []⟩] false [1, 4, 9, 34, 35, 36]))))
def a8r : AC := .loop [1, 4, 9, 34, 35, 36] a2e
def a2i : Fn := ⟨2, 58, [(4, some (some 2)), (5, none)],
 (.seq (.region 2 [
 ⟨0, some 2, .box 0 (.t 0), none, []⟩,
 ⟨1, some 4, .alloc 1 [.int .i64 0, .int .i64 0], none, []⟩,
 ⟨2, some 5, .mv (.k (.sc (.int .i64 0))), none, []⟩] false [1, 2, 4])
 (.seq (.region 1 [
 ⟨0, some 13, .load (some 10) (.t 2), none, []⟩,
 ⟨1, some 14, .mv (.t 1), none, []⟩,
 ⟨2, some 15, .call true (.f 150) [.t 14, .k (.sc (.int .i64 0)), .k (.sc (.int .i64 2))], none, []⟩,
 ⟨3, some 16, .call true (.f 111) [.t 13, .t 15], none, []⟩,
 ⟨4, some 12, .mv (.t 16), none, []⟩,
 ⟨5, some 17, .ext (.t 12) 0, none, []⟩,
 ⟨6, some 18, .ext (.t 12) 1, none, []⟩,
 ⟨7, some 6, .alloc 0 [.sl .nil 2 [], .int .i64 0, .int .i64 0, .int .i64 0, .int .i64 0, .int .i64 0, .int .i64 0, .sl .nil 3 [], .sl .nil 2 [], .sl .nil 4 [], .imap true false [], .sl .nil 4 []], none, [0]⟩,
 ⟨8, none, .store 12 (.t 6) (.t 17), none, []⟩,
 ⟨9, some 7, .mv (.t 18), none, []⟩] true [1, 4, 6, 7])
 (.seq (.seq (.region 0 [
 ⟨0, some 19, .mv (.t 7), none, []⟩,
 ⟨1, some 20, .bin .neq (.t 19) (.k (.sc (.int .i64 0))), none, []⟩] false [1, 4, 6, 7, 20])
 (.cond (.t 20)
 (.seq (.region 0 [
 ⟨0, some 21, .build [.int .i64 0, .int .i64 0] [], none, []⟩,
 ⟨1, some 22, .mv (.t 7), none, []⟩,
 ⟨2, none, .store 2 (.t 4) (.t 21), none, []⟩,
 ⟨3, some 5, .mv (.t 22), none, []⟩] false [4, 5])
 (.ret))
 (.skip)))
 (.seq (.region 0 [
 ⟨0, some 23, .faddr 11 (.t 6), none, []⟩,
 ⟨1, some 24, .load none (.t 23), none, []⟩,
 ⟨2, some 25, .mv (.t 1), none, []⟩,
 ⟨3, some 26, .iaddr 4 (.t 24) (.k (.sc (.int .i64 0))), none, []⟩,
 ⟨4, some 27, .faddr 0 (.t 26), none, []⟩,
 ⟨5, some 28, .iarr 3 1 (.t 27) (.t 25), none, []⟩,
 ⟨6, some 29, .load none (.t 28), none, []⟩,
 ⟨7, some 8, .mv (.t 29), none, []⟩] false [1, 4, 6, 8])
 (.seq (.region 1 [
 ⟨0, some 30, .mv (.t 8), none, []⟩,
 ⟨1, some 31, .mv (.t 8), none, []⟩,
 ⟨2, some 32, .build [.int .i64 0, .int .i64 0] [(0, 1, .t 30), (1, 1, .t 31)], none, []⟩,
 ⟨3, some 9, .alloc 0 [.int .i64 0, .int .i64 0], none, []⟩,
 ⟨4, none, .store 2 (.t 9) (.t 32), none, []⟩] false [1, 4, 6, 9])
 (.seq (.seq (.region 0 [
 ⟨0, some 33, .faddr 11 (.t 6), none, []⟩,
 ⟨1, some 34, .load none (.t 33), none, []⟩,
 ⟨2, some 35, .len 1 (.t 34), none, []⟩,
 ⟨3, some 36, .mv (.k (.sc (.int .i64 0))), none, []⟩] false [1, 4, 9, 34, 35, 36])
 (.block 0 (a8r)))
 (.seq (.region 0 [
 ⟨0, some 57, .load (some 2) (.t 9), none, []⟩,
 ⟨1, none, .store 2 (.t 4) (.t 57), none, []⟩,
 ⟨2, some 5, .mv (.k (.sc (.int .i64 0))), none, []⟩] false [4, 5])
 (.ret)))))))), false⟩
def a2l : AC :=
 (.seq (.region 0 [
 ⟨0, some 44, .bin .lss (.t 43) (.t 42), none, []⟩] false [4, 7, 8, 10, 29, 30, 33, 34, 35, 41, 42, 43, 44])
 (.seq (.cond (.t 44)
 (.skip)
 (.exit 4))
 (.seq (.block 5 (.seq (.region 0 [
 ⟨0, some 45, .iaddr 1 (.t 41) (.t 43), none, []⟩,
 ⟨1, some 46, .load none (.t 45), none, []⟩,
 ⟨2, some 12, .mv (.t 46), none, []⟩] false [4, 7, 8, 10, 12, 29, 30, 33, 34, 35, 41, 42, 43])
 (.region 0 [
 ⟨0, some 47, .mv (.tk 8), none, []⟩,
 ⟨1, some 48, .mv (.t 10), none, []⟩,
 ⟨2, some 49, .mv (.t 10), none, []⟩,
 ⟨3, some 50, .len 1 (.t 49), none, []⟩,
 ⟨4, some 51, .mv (.t 10), none, []⟩,
 ⟨5, some 52, .len 1 (.t 51), none, []⟩,
 ⟨6, some 53, .slice 2 (.t 48) none (some (.t 50)) (some (.t 52)), none, []⟩,
 ⟨7, some 54, .mv (.t 12), none, []⟩,
 ⟨8, some 55, .append 2 (.tk 53) (.t 54), none, []⟩,
 ⟨9, some 56, .bslice 1 1 [.sl .nil 2 []] [(0, .t 55)], none, []⟩,
 ⟨10, some 57, .append 1 (.tk 47) (.t 56), none, []⟩,
 ⟨11, some 8, .mv (.tk 57), none, []⟩] false [4, 7, 8, 10, 29, 30, 33, 34, 35, 41, 42, 43])))
 (.region 0 [
 ⟨0, some 58, .bin .add (.t 43) (.k (.sc (.int .i64 1))), none, []⟩,
 ⟨1, some 43, .mv (.t 58), none, []⟩] false [4, 7, 8, 10, 29, 30, 33, 34, 35, 41, 42, 43]))))
def a8Z : AC := .loop [4, 7, 8, 10, 29, 30, 33, 34, 35, 41, 42, 43] a2l
def a2k : AC :=
 (.seq (.region 0 [
 ⟨0, some 36, .bin .lss (.t 35) (.t 34), none, []⟩] false [4, 7, 8, 29, 30, 33, 34, 35, 36])
 (.seq (.cond (.t 36)
 (.skip)
 (.exit 2))
 (.seq (.block 3 (.seq (.region 0 [
 ⟨0, some 37, .iaddr 1 (.t 33) (.t 35), none, []⟩,
 ⟨1, some 38, .load none (.t 37), none, []⟩,
 ⟨2, some 10, .mv (.t 38), none, []⟩] false [4, 7, 8, 10, 29, 30, 33, 34, 35])
 (.seq (.region 0 [
 ⟨0, some 39, .load (some 12) (.t 4), none, []⟩,
 ⟨1, some 40, .mv (.t 7), none, []⟩,
 ⟨2, some 41, .call true (.f 127) [.t 39, .t 40], none, []⟩,
 ⟨3, some 42, .len 1 (.t 41), none, []⟩,
 ⟨4, some 43, .mv (.k (.sc (.int .i64 0))), none, []⟩] false [4, 7, 8, 10, 29, 30, 33, 34, 35, 41, 42, 43])
 (.block 4 (a8Z)))))
 (.region 0 [
 ⟨0, some 59, .bin .add (.t 35) (.k (.sc (.int .i64 1))), none, []⟩,
 ⟨1, some 35, .mv (.t 59), none, []⟩] false [4, 7, 8, 29, 30, 33, 34, 35]))))
def a8Y : AC := .loop [4, 7, 8, 29, 30, 33, 34, 35] a2k
def a6W : AC :=
 (.seq (.region 0 [
 ⟨0, some 31, .bin .lss (.t 30) (.t 29), none, []⟩] false [4, 6, 29, 30, 31])
 (.seq (.cond (.t 31)
 (.skip)
 (.exit 0))
 (.seq (.block 1 (.seq (.region 0 [
 ⟨0, some 32, .mv (.t 30), none, []⟩,
 ⟨1, some 7, .mv (.t 32), none, []⟩] false [4, 6, 7, 29, 30])
 (.seq (.region 0 [
 ⟨0, some 8, .mv (.k (.sc (.sl .nil 1 []))), none, []⟩] false [4, 6, 7, 8, 29, 30])
 (.seq (.seq (.region 0 [
 ⟨0, some 33, .mv (.t 6), none, []⟩,
 ⟨1, some 34, .len 1 (.t 33), none, []⟩,
 ⟨2, some 35, .mv (.k (.sc (.int .i64 0))), none, []⟩] false [4, 7, 8, 29, 30, 33, 34, 35])
 (.block 2 (a8Y)))
 (.region 0 [
 ⟨0, some 60, .mv (.t 8), none, []⟩,
 ⟨1, some 6, .mv (.t 60), none, []⟩] false [4, 6, 29, 30])))))
 (.region 0 [
 ⟨0, some 61, .bin .add (.t 30) (.k (.sc (.int .i64 1))), none, []⟩,
 ⟨1, some 30, .mv (.t 61), none, []⟩] false [4, 6, 29, 30]))))
def a8X : AC := .loop [4, 6, 29, 30] a6W
def a0s : AC :=
 (.seq (.region 0 [
 ⟨0, some 66, .bin .lss (.t 65) (.t 64), none, []⟩] false [4, 13, 14, 15, 63, 64, 65, 66])
 (.seq (.cond (.t 66)
 (.skip)
 (.exit 6))
 (.seq (.block 7 (.seq (.region 0 [
 ⟨0, some 67, .iaddr 1 (.t 63) (.t 65), none, []⟩,
 ⟨1, some 68, .load none (.t 67), none, []⟩,
 ⟨2, some 17, .mv (.t 68), none, []⟩] false [4, 13, 14, 15, 17, 63, 64, 65])
 (.seq (.seq (.region 0 [
 ⟨0, some 69, .mv (.t 14), none, []⟩,
 ⟨1, some 70, .mv (.t 69), none, []⟩,
 ⟨2, some 71, .mv (.t 17), some (70, true), []⟩,
 ⟨3, some 72, .len 1 (.t 71), some (70, true), []⟩,
 ⟨4, some 73, .mv (.t 13), some (70, true), []⟩,
 ⟨5, some 74, .len 1 (.t 73), some (70, true), []⟩,
 ⟨6, some 75, .bin .gtr (.t 72) (.t 74), some (70, true), []⟩,
 ⟨7, some 76, .pick (.t 70) (.t 75) (.k (.sc (.bool false))), none, []⟩] false [4, 13, 14, 15, 17, 63, 64, 65, 76])
 (.cond (.t 76)
 (.exit 7)
 (.skip)))
 (.seq (.region 0 [
 ⟨0, some 77, .mv (.t 17), none, []⟩,
 ⟨1, some 78, .call false (.f 231) [.t 77], none, []⟩,
 ⟨2, some 17, .mv (.t 78), none, []⟩] false [4, 13, 14, 15, 17, 63, 64, 65])
 (.seq (.region 0 [
 ⟨0, some 79, .mv (.t 17), none, []⟩,
 ⟨1, some 80, .call false (.f 130) [.t 79, .f 131], none, []⟩] false [4, 13, 14, 15, 17, 63, 64, 65])
 (.frzc 17 (.seq (.region 0 [
 ⟨0, some 81, .mv (.t 14), none, []⟩,
 ⟨1, some 82, .un .not (.t 81), none, []⟩,
 ⟨2, some 83, .mv (.t 82), none, []⟩,
 ⟨3, some 84, .faddr 0 (.t 15), some (83, false), []⟩,
 ⟨4, some 85, .load none (.t 84), some (83, false), []⟩,
 ⟨5, some 86, .mv (.t 17), some (83, false), []⟩,
 ⟨6, some 87, .mv (.t 13), some (83, false), []⟩,
 ⟨7, some 88, .call true (.t 85) [.t 86, .t 87], some (83, false), []⟩,
 ⟨8, some 89, .pick (.t 83) (.k (.sc (.bool true))) (.t 88), none, []⟩,
 ⟨9, some 90, .mv (.t 89), none, []⟩,
 ⟨10, some 91, .load (some 12) (.t 4), some (90, true), []⟩,
 ⟨11, some 92, .faddr 10 (.t 4), some (90, true), []⟩,
 ⟨12, some 93, .load none (.t 92), some (90, true), []⟩,
 ⟨13, some 94, .mv (.t 17), some (90, true), []⟩,
 ⟨14, some 95, .call true (.f 121) [.t 93, .t 94], some (90, true), []⟩,
 ⟨15, some 96, .call true (.f 123) [.t 91, .t 95], some (90, true), []⟩,
 ⟨16, some 97, .pick (.t 90) (.t 96) (.k (.sc (.bool false))), none, []⟩] true [4, 13, 14, 15, 17, 63, 64, 65, 97])
 (.cond (.t 97)
 (.region 0 [
 ⟨0, some 98, .mv (.t 17), none, []⟩,
 ⟨1, some 13, .mv (.t 98), none, []⟩,
 ⟨2, some 14, .mv (.k (.sc (.bool true))), none, []⟩] false [4, 13, 14, 15, 63, 64, 65])
 (.skip)))))))))
 (.region 0 [
 ⟨0, some 99, .bin .add (.t 65) (.k (.sc (.int .i64 1))), none, []⟩,
 ⟨1, some 65, .mv (.t 99), none, []⟩] false [4, 13, 14, 15, 63, 64, 65]))))
def a9a : AC := .loop [4, 13, 14, 15, 63, 64, 65] a0s
def a4U : Fn := ⟨1, 108, [(2, none), (3, none)],
 (.seq (.region 1 [
 ⟨0, some 1, .box 0 (.t 0), none, []⟩,
 ⟨1, some 2, .mv (.k (.sc (.sl .nil 2 []))), none, []⟩,
 ⟨2, some 3, .mv (.k (.sc (.int .i64 0))), none, []⟩] false [1])
 (.seq (.region 1 [
 ⟨0, some 19, .load (some 10) (.t 1), none, []⟩,
 ⟨1, some 20, .call true (.f 111) [.t 19, .k (.sc (.bool true))], none, []⟩,
 ⟨2, some 18, .mv (.t 20), none, []⟩,
 ⟨3, some 21, .ext (.t 18) 0, none, []⟩,
 ⟨4, some 22, .ext (.t 18) 1, none, []⟩,
 ⟨5, some 4, .alloc 0 [.sl .nil 2 [], .int .i64 0, .int .i64 0, .int .i64 0, .int .i64 0, .int .i64 0, .int .i64 0, .sl .nil 3 [], .sl .nil 2 [], .sl .nil 4 [], .imap true false [], .sl .nil 4 []], none, []⟩,
 ⟨6, none, .store 12 (.t 4) (.t 21), none, []⟩,
 ⟨7, some 5, .mv (.t 22), none, []⟩] false [1, 4, 5])
 (.seq (.seq (.region 0 [
 ⟨0, some 23, .mv (.t 5), none, []⟩,
 ⟨1, some 24, .bin .neq (.t 23) (.k (.sc (.int .i64 0))), none, []⟩] false [1, 4, 5, 24])
 (.cond (.t 24)
 (.seq (.region 0 [
 ⟨0, some 25, .mv (.t 5), none, []⟩,
 ⟨1, some 2, .mv (.k (.sc (.sl .nil 2 []))), none, []⟩,
 ⟨2, some 3, .mv (.t 25), none, []⟩] false [2, 3])
 (.ret))
 (.skip)))
 (.seq (.region 0 [
 ⟨0, some 26, .bslice 1 1 [.sl .nil 2 []] [(0, .k (.sc (.sl .nil 2 [])))], none, []⟩,
 ⟨1, some 6, .mv (.t 26), none, []⟩] false [1, 4, 6])
 (.seq (.seq (.region 0 [
 ⟨0, some 27, .faddr 0 (.t 1), none, []⟩,
 ⟨1, some 28, .load none (.t 27), none, []⟩,
 ⟨2, some 29, .len 1 (.t 28), none, []⟩,
 ⟨3, some 30, .mv (.k (.sc (.int .i64 0))), none, []⟩] false [4, 6, 29, 30])
 (.block 0 (a8X)))
 (.seq (.region 0 [
 ⟨0, some 13, .mv (.k (.sc (.sl .nil 2 []))), none, []⟩] false [4, 6, 13])
 (.seq (.region 1 [
 ⟨0, some 62, .call true (.f 128) [], none, []⟩,
 ⟨1, some 15, .alloc 0 [.nilf], none, []⟩,
 ⟨2, some 14, .mv (.k (.sc (.bool false))), none, []⟩,
 ⟨3, none, .store 1 (.t 15) (.t 62), none, []⟩] false [4, 6, 13, 14, 15])
 (.seq (.seq (.region 0 [
 ⟨0, some 63, .mv (.t 6), none, []⟩,
 ⟨1, some 64, .len 1 (.t 63), none, []⟩,
 ⟨2, some 65, .mv (.k (.sc (.int .i64 0))), none, []⟩] false [4, 13, 14, 15, 63, 64, 65])
 (.block 6 (a9a)))
 (.seq (.seq (.region 0 [
 ⟨0, some 100, .mv (.t 14), none, []⟩,
 ⟨1, some 101, .un .not (.t 100), none, []⟩] false [13, 101])
 (.cond (.t 101)
 (.seq (.region 0 [
 ⟨0, some 2, .mv (.k (.sc (.sl .nil 2 []))), none, []⟩,
 ⟨1, some 3, .mv (.k (.sc (.int .i64 4))), none, []⟩] false [2, 3])
 (.ret))
 (.skip)))
 (.seq (.region 0 [
 ⟨0, some 102, .mv (.t 13), none, []⟩,
 ⟨1, some 103, .mv (.t 13), none, []⟩,
 ⟨2, some 104, .len 1 (.t 103), none, []⟩,
 ⟨3, some 105, .mv (.t 13), none, []⟩,
 ⟨4, some 106, .len 1 (.t 105), none, []⟩,
 ⟨5, some 107, .slice 2 (.t 102) none (some (.t 104)) (some (.t 106)), none, []⟩,
 ⟨6, some 2, .mv (.t 107), none, []⟩,
 ⟨7, some 3, .mv (.k (.sc (.int .i64 0))), none, []⟩] false [2, 3])
 (.ret))))))))))), false⟩
def a4A : Fn := ⟨1, 6, [(2, some (some 2))],
 (.seq (.region 1 [
 ⟨0, some 2, .alloc 0 [.int .i64 0, .int .i64 0], none, []⟩] false [0, 2])
 (.seq (.region 0 [
 ⟨0, some 3, .mv (.t 0), none, []⟩,
 ⟨1, some 4, .mv (.t 0), none, []⟩,
 ⟨2, some 5, .build [.int .i64 0, .int .i64 0] [(0, 1, .t 3), (1, 1, .t 4)], none, []⟩,
 ⟨3, none, .store 2 (.t 2) (.t 5), none, []⟩] false [2])
 (.ret))), false⟩
def d2A : AC :=
 (.seq (.seq (.region 0 [
 ⟨0, some 8, .mv (.t 6), none, []⟩,
 ⟨1, some 9, .mv (.t 1), none, []⟩,
 ⟨2, some 10, .bin .lss (.t 8) (.t 9), none, []⟩] false [0, 1, 5, 6, 10])
 (.cond (.t 10)
 (.skip)
 (.exit 0)))
 (.seq (.block 1 (.seq (.region 0 [
 ⟨0, some 13, .mv (.t 0), none, []⟩,
 ⟨1, some 14, .mv (.t 6), none, []⟩,
 ⟨2, some 15, .call true (.f 65) [.t 13, .t 14], none, []⟩] false [0, 1, 5, 6, 15])
 (.cond (.t 15)
 (.region 0 [
 ⟨0, some 16, .mv (.tk 5), none, []⟩,
 ⟨1, some 17, .mv (.t 6), none, []⟩,
 ⟨2, some 18, .bslice 1 1 [.int .i64 0] [(0, .t 17)], none, []⟩,
 ⟨3, some 19, .append 1 (.tk 16) (.t 18), none, []⟩,
 ⟨4, some 5, .mv (.tk 19), none, []⟩] false [0, 1, 5, 6])
 (.skip))))
 (.region 0 [
 ⟨0, some 11, .mv (.t 6), none, []⟩,
 ⟨1, some 12, .bin .add (.t 11) (.k (.sc (.int .i64 1))), none, []⟩,
 ⟨2, some 6, .mv (.t 12), none, []⟩] false [0, 1, 5, 6])))
def d2V : AC := .loop [0, 1, 5, 6] d2A
def d2F : Fn := ⟨2, 21, [(4, none)],
 (.seq (.region 0 [
 ⟨0, some 4, .mv (.k (.sc (.sl .nil 1 []))), none, []⟩] false [0, 1])
 (.seq (.region 0 [
 ⟨0, some 7, .bslice 1 0 [.int .i64 0] [], none, []⟩,
 ⟨1, some 5, .mv (.t 7), none, []⟩] false [0, 1, 5])
 (.seq (.seq (.region 0 [
 ⟨0, some 6, .mv (.k (.sc (.int .i64 0))), none, []⟩] false [0, 1, 5, 6])
 (.block 0 (d2V)))
 (.seq (.region 0 [
 ⟨0, some 20, .mv (.t 5), none, []⟩,
 ⟨1, some 4, .mv (.t 20), none, []⟩] false [4])
 (.ret))))), false⟩
def d2w : Fn := ⟨2, 22, [(4, none)],
 (.seq (.region 0 [
 ⟨0, some 4, .mv (.k (.sc (.bool false))), none, []⟩] false [0, 1])
 (.seq (.region 0 [
 ⟨0, some 5, .mv (.t 0), none, []⟩,
 ⟨1, some 6, .len 1 (.t 5), none, []⟩,
 ⟨2, some 7, .mv (.t 1), none, []⟩,
 ⟨3, some 8, .len 1 (.t 7), none, []⟩,
 ⟨4, some 9, .bin .lss (.t 6) (.t 8), none, []⟩,
 ⟨5, some 10, .mv (.t 9), none, []⟩,
 ⟨6, some 11, .mv (.t 0), some (10, false), []⟩,
 ⟨7, some 12, .len 1 (.t 11), some (10, false), []⟩,
 ⟨8, some 13, .mv (.t 1), some (10, false), []⟩,
 ⟨9, some 14, .len 1 (.t 13), some (10, false), []⟩,
 ⟨10, some 15, .bin .eql (.t 12) (.t 14), some (10, false), []⟩,
 ⟨11, some 16, .mv (.t 15), some (10, false), []⟩,
 ⟨12, some 17, .mv (.t 0), some (16, true), []⟩,
 ⟨13, some 18, .mv (.t 1), some (16, true), []⟩,
 ⟨14, some 19, .call true (.f 67) [.t 17, .t 18], some (16, true), []⟩,
 ⟨15, some 20, .pick (.t 16) (.t 19) (.k (.sc (.bool false))), some (10, false), []⟩,
 ⟨16, some 21, .pick (.t 10) (.k (.sc (.bool true))) (.t 20), none, []⟩,
 ⟨17, some 4, .mv (.t 21), none, []⟩] false [4])
 (.ret))), false⟩
def a4W : Fn := ⟨0, 2, [(0, some (some 10))],
 (.seq (.region 1 [
 ⟨0, some 0, .alloc 0 [.sl .nil 2 [], .int .i64 0, .int .i64 0, .int .i64 0, .int .i64 0, .int .i64 0, .int .i64 0, .sl .nil 3 [], .sl .nil 2 [], .sl .nil 4 []], none, []⟩] false [0])
 (.seq (.region 0 [
 ⟨0, some 1, .call true (.f 168) [.k (.sc (.int .i64 1)), .k (.sc (.sl .nil 4 []))], none, []⟩,
 ⟨1, none, .store 10 (.t 0) (.t 1), none, []⟩] false [0])
 (.ret))), false⟩
def a4s : Fn := ⟨2, 20, [(4, some (some 10))],
 (.seq (.region 1 [
 ⟨0, some 4, .alloc 0 [.sl .nil 2 [], .int .i64 0, .int .i64 0, .int .i64 0, .int .i64 0, .int .i64 0, .int .i64 0, .sl .nil 3 [], .sl .nil 2 [], .sl .nil 4 []], none, []⟩] false [0, 1, 4])
 (.seq (.region 0 [
 ⟨0, some 5, .call true (.f 33) [.k (.sc (.int .i64 10)), .k (.sc (.int .i64 11))], none, []⟩,
 ⟨1, some 6, .call true (.f 30) [.k (.sc (.int .i64 8))], none, []⟩,
 ⟨2, some 7, .bslice 2 2 [.int .i64 0, .int .i64 0] [(0, .t 5), (1, .t 6)], none, []⟩,
 ⟨3, some 8, .call true (.f 33) [.k (.sc (.int .i64 2)), .k (.sc (.int .i64 3))], none, []⟩,
 ⟨4, some 9, .call true (.f 30) [.k (.sc (.int .i64 4))], none, []⟩,
 ⟨5, some 10, .call true (.f 33) [.k (.sc (.int .i64 3)), .k (.sc (.int .i64 4))], none, []⟩,
 ⟨6, some 11, .build [.int .i64 0, .int .i64 0, .int .i64 0, .int .i64 0, .int .i64 0, .int .i64 0] [(0, 2, .t 8), (2, 2, .t 9), (4, 2, .t 10)], none, []⟩,
 ⟨7, some 12, .build [.int .i64 0, .int .i64 0, .int .i64 0] [(0, 1, .k (.sc (.int .i64 1))), (1, 1, .k (.sc (.int .i64 1))), (2, 1, .k (.sc (.int .i64 1)))], none, []⟩,
 ⟨8, some 13, .mv (.t 0), none, []⟩,
 ⟨9, some 14, .build [.int .i64 0, .int .i64 0, .int .i64 0] [(1, 1, .k (.sc (.int .i64 1))), (2, 1, .t 13)], none, []⟩,
 ⟨10, some 15, .build [.int .i64 0, .int .i64 0, .int .i64 0] [(1, 1, .k (.sc (.int .i64 1))), (2, 1, .k (.sc (.int .i64 1)))], none, []⟩,
 ⟨11, some 16, .build [.int .i64 0, .int .i64 0, .int .i64 0] [(0, 1, .k (.sc (.int .i64 2))), (2, 1, .k (.sc (.int .i64 1)))], none, []⟩,
 ⟨12, some 17, .bslice 3 4 [.int .i64 0, .int .i64 0, .int .i64 0] [(0, .t 12), (1, .t 14), (2, .t 15), (3, .t 16)], none, []⟩,
 ⟨13, some 18, .mv (.t 1), none, []⟩,
 ⟨14, some 19, .build [.sl .nil 2 [], .int .i64 0, .int .i64 0, .int .i64 0, .int .i64 0, .int .i64 0, .int .i64 0, .sl .nil 3 [], .sl .nil 2 [], .sl .nil 4 []] [(0, 1, .t 7), (1, 6, .t 11), (7, 1, .t 17), (9, 1, .t 18)], none, []⟩,
 ⟨15, none, .store 10 (.t 4) (.t 19), none, []⟩] false [4])
 (.ret))), false⟩
def a3N : Fn := ⟨2, 8, [(4, some (some 2))],
 (.seq (.region 1 [
 ⟨0, some 4, .alloc 0 [.int .i64 0, .int .i64 0], none, []⟩] false [0, 1, 4])
 (.seq (.region 0 [
 ⟨0, some 5, .mv (.t 0), none, []⟩,
 ⟨1, some 6, .mv (.t 1), none, []⟩,
 ⟨2, some 7, .build [.int .i64 0, .int .i64 0] [(0, 1, .t 5), (1, 1, .t 6)], none, []⟩,
 ⟨3, none, .store 2 (.t 4) (.t 7), none, []⟩] false [4])
 (.ret))), false⟩
def a6k : AC :=
 (.seq (.seq (.region 0 [
 ⟨0, some 5, .mv (.t 4), none, []⟩,
 ⟨1, some 6, .bin .add (.t 5) (.k (.sc (.int .i64 1))), none, []⟩,
 ⟨2, some 7, .mv (.t 0), none, []⟩,
 ⟨3, some 8, .len 1 (.t 7), none, []⟩,
 ⟨4, some 9, .bin .lss (.t 6) (.t 8), none, []⟩] false [0, 3, 4, 9])
 (.cond (.t 9)
 (.skip)
 (.exit 0)))
 (.seq (.block 1 (.region 0 [
 ⟨0, some 12, .mv (.tk 3), none, []⟩,
 ⟨1, some 13, .mv (.t 0), none, []⟩,
 ⟨2, some 14, .mv (.t 4), none, []⟩,
 ⟨3, some 15, .iaddr 1 (.t 13) (.t 14), none, []⟩,
 ⟨4, some 16, .load none (.t 15), none, []⟩,
 ⟨5, some 17, .mv (.t 0), none, []⟩,
 ⟨6, some 18, .mv (.t 4), none, []⟩,
 ⟨7, some 19, .bin .add (.t 18) (.k (.sc (.int .i64 1))), none, []⟩,
 ⟨8, some 20, .iaddr 1 (.t 17) (.t 19), none, []⟩,
 ⟨9, some 21, .load none (.t 20), none, []⟩,
 ⟨10, some 22, .build [.int .i64 0, .int .i64 0] [(0, 1, .t 16), (1, 1, .t 21)], none, []⟩,
 ⟨11, some 23, .bslice 2 1 [.int .i64 0, .int .i64 0] [(0, .t 22)], none, []⟩,
 ⟨12, some 24, .append 2 (.tk 12) (.t 23), none, []⟩,
 ⟨13, some 3, .mv (.tk 24), none, []⟩] true [0, 3, 4]))
 (.region 0 [
 ⟨0, some 10, .mv (.t 4), none, []⟩,
 ⟨1, some 11, .bin .add (.t 10) (.k (.sc (.int .i64 2))), none, []⟩,
 ⟨2, some 4, .mv (.t 11), none, []⟩] false [0, 3, 4])))
def a6l : AC := .loop [0, 3, 4] a6k
def a4c : Fn := ⟨1, 26, [(2, none)],
 (.seq (.region 0 [
 ⟨0, some 2, .mv (.k (.sc (.sl .nil 2 []))), none, []⟩] false [0])
 (.seq (.region 0 [
 ⟨0, some 3, .mv (.k (.sc (.sl .nil 2 []))), none, []⟩] false [0, 3])
 (.seq (.seq (.region 0 [
 ⟨0, some 4, .mv (.k (.sc (.int .i64 0))), none, []⟩] false [0, 3, 4])
 (.block 0 (a6l)))
 (.seq (.region 0 [
 ⟨0, some 25, .mv (.t 3), none, []⟩,
 ⟨1, some 2, .mv (.t 25), none, []⟩] false [2])
 (.ret))))), false⟩
def a4z : Fn := ⟨0, 5, [(0, some (some 10))],
 (.seq (.region 1 [
 ⟨0, some 0, .alloc 0 [.sl .nil 2 [], .int .i64 0, .int .i64 0, .int .i64 0, .int .i64 0, .int .i64 0, .int .i64 0, .sl .nil 3 [], .sl .nil 2 [], .sl .nil 4 []], none, []⟩] false [0])
 (.seq (.region 0 [
 ⟨0, some 1, .build [.int .i64 0, .int .i64 0, .int .i64 0, .int .i64 0] [(2, 1, .k (.sc (.int .i64 3)))], none, []⟩,
 ⟨1, some 2, .build [.int .i64 0, .int .i64 0, .int .i64 0, .int .i64 0] [(0, 1, .k (.sc (.int .i64 1))), (2, 1, .k (.sc (.int .i64 2)))], none, []⟩,
 ⟨2, some 3, .bslice 4 2 [.int .i64 0, .int .i64 0, .int .i64 0, .int .i64 0] [(0, .t 1), (1, .t 2)], none, []⟩,
 ⟨3, some 4, .call true (.f 168) [.k (.sc (.int .i64 1)), .t 3], none, []⟩,
 ⟨4, none, .store 10 (.t 0) (.t 4), none, []⟩] false [0])
 (.ret))), false⟩
def a4e : Fn := ⟨0, 4, [(0, some (some 10))],
 (.seq (.region 1 [
 ⟨0, some 0, .alloc 0 [.sl .nil 2 [], .int .i64 0, .int .i64 0, .int .i64 0, .int .i64 0, .int .i64 0, .int .i64 0, .sl .nil 3 [], .sl .nil 2 [], .sl .nil 4 []], none, []⟩] false [0])
 (.seq (.region 0 [
 ⟨0, some 1, .build [.int .i64 0, .int .i64 0, .int .i64 0, .int .i64 0] [(2, 1, .k (.sc (.int .i64 3)))], none, []⟩,
 ⟨1, some 2, .bslice 4 1 [.int .i64 0, .int .i64 0, .int .i64 0, .int .i64 0] [(0, .t 1)], none, []⟩,
 ⟨2, some 3, .call true (.f 168) [.k (.sc (.int .i64 1)), .t 2], none, []⟩,
 ⟨3, none, .store 10 (.t 0) (.t 3), none, []⟩] false [0])
 (.ret))), false⟩
def a1l : AC :=
 (.seq (.seq (.region 0 [
 ⟨0, some 12, .mv (.t 5), none, []⟩,
 ⟨1, some 13, .mv (.t 12), none, []⟩,
 ⟨2, some 14, .mv (.t 6), some (13, true), []⟩,
 ⟨3, some 15, .mv (.t 0), some (13, true), []⟩,
 ⟨4, some 16, .len 1 (.t 15), some (13, true), []⟩,
 ⟨5, some 17, .bin .lss (.t 14) (.t 16), some (13, true), []⟩,
 ⟨6, some 18, .pick (.t 13) (.t 17) (.k (.sc (.bool false))), none, []⟩] false [0, 1, 5, 6, 18])
 (.cond (.t 18)
 (.skip)
 (.exit 0)))
 (.seq (.block 1 (.region 0 [
 ⟨0, some 21, .mv (.t 0), none, []⟩,
 ⟨1, some 22, .mv (.t 6), none, []⟩,
 ⟨2, some 23, .iaddr 2 (.t 21) (.t 22), none, []⟩,
 ⟨3, some 24, .load (some 2) (.t 23), none, []⟩,
 ⟨4, some 25, .mv (.t 1), none, []⟩,
 ⟨5, some 26, .mv (.t 6), none, []⟩,
 ⟨6, some 27, .iaddr 2 (.t 25) (.t 26), none, []⟩,
 ⟨7, some 28, .load (some 2) (.t 27), none, []⟩,
 ⟨8, some 29, .eqf false ⟨true, [1, 1]⟩ (.t 24) (.t 28), none, []⟩,
 ⟨9, some 5, .mv (.t 29), none, []⟩] true [0, 1, 5, 6]))
 (.region 0 [
 ⟨0, some 19, .mv (.t 6), none, []⟩,
 ⟨1, some 20, .bin .add (.t 19) (.k (.sc (.int .i64 1))), none, []⟩,
 ⟨2, some 6, .mv (.t 20), none, []⟩] false [0, 1, 5, 6])))
def a6I : AC := .loop [0, 1, 5, 6] a1l
def a3x : Fn := ⟨2, 31, [(4, none)],
 (.seq (.region 0 [
 ⟨0, some 4, .mv (.k (.sc (.bool false))), none, []⟩] false [0, 1])
 (.seq (.region 0 [
 ⟨0, some 7, .mv (.t 0), none, []⟩,
 ⟨1, some 8, .len 1 (.t 7), none, []⟩,
 ⟨2, some 9, .mv (.t 1), none, []⟩,
 ⟨3, some 10, .len 1 (.t 9), none, []⟩,
 ⟨4, some 11, .bin .eql (.t 8) (.t 10), none, []⟩,
 ⟨5, some 5, .mv (.t 11), none, []⟩] false [0, 1, 5])
 (.seq (.seq (.region 0 [
 ⟨0, some 6, .mv (.k (.sc (.int .i64 0))), none, []⟩] false [0, 1, 5, 6])
 (.block 0 (a6I)))
 (.seq (.region 0 [
 ⟨0, some 30, .mv (.t 5), none, []⟩,
 ⟨1, some 4, .mv (.t 30), none, []⟩] false [4])
 (.ret))))), false⟩
def a3C : Fn := ⟨2, 25, [(4, some (some 12)), (5, none)],
 (.seq (.region 2 [
 ⟨0, some 2, .box 0 (.t 0), none, []⟩,
 ⟨1, some 4, .alloc 1 [.sl .nil 2 [], .int .i64 0, .int .i64 0, .int .i64 0, .int .i64 0, .int .i64 0, .int .i64 0, .sl .nil 3 [], .sl .nil 2 [], .sl .nil 4 [], .imap true false [], .sl .nil 4 []], none, []⟩,
 ⟨2, some 5, .mv (.k (.sc (.int .i64 0))), none, []⟩] false [1, 2, 4])
 (.seq (.seq (.region 0 [
 ⟨0, some 8, .load (some 10) (.t 2), none, []⟩,
 ⟨1, some 9, .call true (.f 117) [.t 8], none, []⟩,
 ⟨2, some 6, .mv (.t 9), none, []⟩] false [1, 2, 4, 6])
 (.seq (.region 0 [
 ⟨0, some 10, .mv (.t 6), none, []⟩,
 ⟨1, some 11, .bin .neq (.t 10) (.k (.sc (.int .i64 0))), none, []⟩] false [1, 2, 4, 6, 11])
 (.cond (.t 11)
 (.seq (.region 0 [
 ⟨0, some 12, .build [.sl .nil 2 [], .int .i64 0, .int .i64 0, .int .i64 0, .int .i64 0, .int .i64 0, .int .i64 0, .sl .nil 3 [], .sl .nil 2 [], .sl .nil 4 [], .imap true false [], .sl .nil 4 []] [], none, []⟩,
 ⟨1, some 13, .mv (.t 6), none, []⟩,
 ⟨2, none, .store 12 (.t 4) (.t 12), none, []⟩,
 ⟨3, some 5, .mv (.t 13), none, []⟩] false [4, 5])
 (.ret))
 (.skip))))
 (.seq (.seq (.region 0 [
 ⟨0, some 14, .mv (.t 1), none, []⟩,
 ⟨1, some 15, .un .not (.t 14), none, []⟩] false [2, 4, 15])
 (.cond (.t 15)
 (.seq (.region 0 [
 ⟨0, some 16, .build [.sl .nil 2 [], .int .i64 0, .int .i64 0, .int .i64 0, .int .i64 0, .int .i64 0, .int .i64 0, .sl .nil 3 [], .sl .nil 2 [], .sl .nil 4 [], .imap true false [], .sl .nil 4 []] [], none, []⟩,
 ⟨1, none, .store 12 (.t 4) (.t 16), none, []⟩,
 ⟨2, some 5, .mv (.k (.sc (.int .i64 41))), none, []⟩] false [4, 5])
 (.ret))
 (.skip)))
 (.seq (.region 1 [
 ⟨0, some 17, .load (some 10) (.t 2), none, []⟩,
 ⟨1, some 18, .call true (.f 144) [.t 17, .k (.sc (.sl .nil 1 []))], none, []⟩,
 ⟨2, some 7, .alloc 0 [.sl .nil 2 [], .int .i64 0, .int .i64 0, .int .i64 0, .int .i64 0, .int .i64 0, .int .i64 0, .sl .nil 3 [], .sl .nil 2 [], .sl .nil 4 [], .imap true false [], .sl .nil 4 []], none, []⟩,
 ⟨3, none, .store 12 (.t 7) (.t 18), none, []⟩] false [4, 7])
 (.seq (.seq (.region 0 [
 ⟨0, some 19, .faddr 11 (.t 7), none, []⟩,
 ⟨1, some 20, .load none (.t 19), none, []⟩,
 ⟨2, some 21, .len 1 (.t 20), none, []⟩,
 ⟨3, some 22, .bin .eql (.t 21) (.k (.sc (.int .i64 0))), none, []⟩] false [4, 7, 22])
 (.cond (.t 22)
 (.seq (.region 0 [
 ⟨0, some 23, .load (some 12) (.t 7), none, []⟩,
 ⟨1, none, .store 12 (.t 4) (.t 23), none, []⟩,
 ⟨2, some 5, .mv (.k (.sc (.int .i64 42))), none, []⟩] false [4, 5])
 (.ret))
 (.skip)))
 (.seq (.region 0 [
 ⟨0, some 24, .load (some 12) (.t 7), none, []⟩,
 ⟨1, none, .store 12 (.t 4) (.t 24), none, []⟩,
 ⟨2, some 5, .mv (.k (.sc (.int .i64 0))), none, []⟩] false [4, 5])
 (.ret))))))), false⟩
def a5N : Fn := ⟨2, 25, [(4, none)],
 (.seq (.region 2 [
 ⟨0, some 2, .box 0 (.t 0), none, []⟩,
 ⟨1, some 3, .box 1 (.t 1), none, []⟩,
 ⟨2, some 4, .mv (.k (.sc (.bool false))), none, []⟩] false [2, 3])
 (.seq (.region 0 [
 ⟨0, some 5, .load (some 10) (.t 2), none, []⟩,
 ⟨1, some 6, .faddr 0 (.t 3), none, []⟩,
 ⟨2, some 7, .load none (.t 6), none, []⟩,
 ⟨3, some 8, .call true (.f 153) [.t 5, .t 7], none, []⟩,
 ⟨4, some 9, .mv (.t 8), none, []⟩,
 ⟨5, some 10, .load (some 10) (.t 2), some (9, true), []⟩,
 ⟨6, some 11, .faddr 1 (.t 3), some (9, true), []⟩,
 ⟨7, some 12, .load none (.t 11), some (9, true), []⟩,
 ⟨8, some 13, .call true (.f 152) [.t 10, .t 12], some (9, true), []⟩,
 ⟨9, some 14, .pick (.t 9) (.t 13) (.k (.sc (.bool false))), none, []⟩,
 ⟨10, some 15, .mv (.t 14), none, []⟩,
 ⟨11, some 16, .faddr 2 (.t 3), some (15, true), []⟩,
 ⟨12, some 17, .load none (.t 16), some (15, true), []⟩,
 ⟨13, some 18, .call true (.f 150) [.t 17, .k (.sc (.int .i64 (-150))), .k (.sc (.int .i64 30))], some (15, true), []⟩,
 ⟨14, some 19, .pick (.t 15) (.t 18) (.k (.sc (.bool false))), none, []⟩,
 ⟨15, some 20, .mv (.t 19), none, []⟩,
 ⟨16, some 21, .faddr 3 (.t 3), some (20, true), []⟩,
 ⟨17, some 22, .load none (.t 21), some (20, true), []⟩,
 ⟨18, some 23, .call true (.f 150) [.t 22, .k (.sc (.int .i64 0)), .k (.sc (.int .i64 3))], some (20, true), []⟩,
 ⟨19, some 24, .pick (.t 20) (.t 23) (.k (.sc (.bool false))), none, []⟩,
 ⟨20, some 4, .mv (.t 24), none, []⟩] false [4])
 (.ret))), false⟩
def a1Q : AC :=
 (.seq (.seq (.region 0 [
 ⟨0, some 36, .mv (.t 12), none, []⟩,
 ⟨1, some 37, .faddr 1 (.t 10), none, []⟩,
 ⟨2, some 38, .load none (.t 37), none, []⟩,
 ⟨3, some 39, .bin .leq (.t 36) (.t 38), none, []⟩] false [3, 5, 6, 7, 8, 9, 10, 11, 12, 27, 28, 29, 39])
 (.cond (.t 39)
 (.skip)
 (.exit 4)))
 (.seq (.block 5 (.seq (.region 0 [
 ⟨0, some 42, .load none (.t 6), none, []⟩,
 ⟨1, some 43, .load (some 3) (.t 7), none, []⟩,
 ⟨2, some 44, .mv (.t 9), none, []⟩,
 ⟨3, some 45, .mv (.t 12), none, []⟩,
 ⟨4, some 46, .load none (.t 3), none, []⟩,
 ⟨5, some 47, .call true (.t 42) [.t 43, .t 44, .t 45, .t 46], none, []⟩] false [3, 5, 6, 7, 8, 9, 10, 11, 12, 27, 28, 29, 47])
 (.cond (.t 47)
 (.region 0 [
 ⟨0, some 48, .mv (.tk 11), none, []⟩,
 ⟨1, some 49, .mv (.t 12), none, []⟩,
 ⟨2, some 50, .bslice 1 1 [.int .i64 0] [(0, .t 49)], none, []⟩,
 ⟨3, some 51, .append 1 (.tk 48) (.t 50), none, []⟩,
 ⟨4, some 11, .mv (.tk 51), none, []⟩] false [3, 5, 6, 7, 8, 9, 10, 11, 12, 27, 28, 29])
 (.skip))))
 (.region 0 [
 ⟨0, some 40, .mv (.t 12), none, []⟩,
 ⟨1, some 41, .bin .add (.t 40) (.k (.sc (.int .i64 1))), none, []⟩,
 ⟨2, some 12, .mv (.t 41), none, []⟩] false [3, 5, 6, 7, 8, 9, 10, 11, 12, 27, 28, 29])))
def a8c : AC := .loop [3, 5, 6, 7, 8, 9, 10, 11, 12, 27, 28, 29] a1Q
def a1P : AC :=
 (.seq (.region 0 [
 ⟨0, some 30, .bin .lss (.t 29) (.t 28), none, []⟩] false [3, 5, 6, 7, 8, 27, 28, 29, 30])
 (.seq (.cond (.t 30)
 (.skip)
 (.exit 2))
 (.seq (.block 3 (.seq (.region 1 [
 ⟨0, some 31, .mv (.t 29), none, []⟩,
 ⟨1, some 32, .iaddr 2 (.t 27) (.t 29), none, []⟩,
 ⟨2, some 33, .load (some 2) (.t 32), none, []⟩,
 ⟨3, some 10, .alloc 0 [.int .i64 0, .int .i64 0], none, []⟩,
 ⟨4, some 9, .mv (.t 31), none, []⟩,
 ⟨5, none, .store 2 (.t 10) (.t 33), none, []⟩] false [3, 5, 6, 7, 8, 9, 10, 27, 28, 29])
 (.seq (.region 0 [
 ⟨0, some 11, .mv (.k (.sc (.sl .nil 1 []))), none, []⟩] false [3, 5, 6, 7, 8, 9, 10, 11, 27, 28, 29])
 (.seq (.seq (.region 0 [
 ⟨0, some 34, .faddr 0 (.t 10), none, []⟩,
 ⟨1, some 35, .load none (.t 34), none, []⟩,
 ⟨2, some 12, .mv (.t 35), none, []⟩] false [3, 5, 6, 7, 8, 9, 10, 11, 12, 27, 28, 29])
 (.block 4 (a8c)))
 (.seq (.seq (.region 0 [
 ⟨0, some 52, .mv (.t 11), none, []⟩,
 ⟨1, some 53, .len 1 (.t 52), none, []⟩,
 ⟨2, some 54, .bin .eql (.t 53) (.k (.sc (.int .i64 0))), none, []⟩] false [3, 5, 6, 7, 8, 11, 27, 28, 29, 54])
 (.cond (.t 54)
 (.exit 1)
 (.skip)))
 (.region 0 [
 ⟨0, some 55, .faddr 3 (.t 8), none, []⟩,
 ⟨1, some 56, .loadT (.t 55), none, []⟩,
 ⟨2, some 57, .mv (.t 11), none, []⟩,
 ⟨3, some 58, .bslice 1 1 [.sl .nil 1 []] [(0, .t 57)], none, []⟩,
 ⟨4, some 59, .append 1 (.tk 56) (.t 58), none, []⟩,
 ⟨5, some 60, .faddr 3 (.t 8), none, []⟩,
 ⟨6, none, .store 1 (.t 60) (.tk 59), none, []⟩] false [3, 5, 6, 7, 8, 27, 28, 29]))))))
 (.region 0 [
 ⟨0, some 61, .bin .add (.t 29) (.k (.sc (.int .i64 1))), none, []⟩,
 ⟨1, some 29, .mv (.t 61), none, []⟩] false [3, 5, 6, 7, 8, 27, 28, 29]))))
def a5V : AC := .loop [3, 5, 6, 7, 8, 27, 28, 29] a1P
def a2x : AC :=
 (.region 1 [
 ⟨0, some 7, .alloc 0 [.int .i64 0, .int .i64 0, .int .i64 0], none, []⟩,
 ⟨1, none, .store 3 (.t 7) (.t 23), none, []⟩] false [2, 3, 5, 6, 7])
def a2y : AC :=
 (.block 1 (.seq (.region 1 [
 ⟨0, some 24, .load (some 3) (.t 7), none, []⟩,
 ⟨1, some 25, .build [.int .i64 0, .int .i64 0, .int .i64 0, .sl .nil 1 []] [(0, 3, .t 24)], none, []⟩,
 ⟨2, some 8, .alloc 0 [.int .i64 0, .int .i64 0, .int .i64 0, .sl .nil 1 []], none, []⟩,
 ⟨3, none, .store 4 (.t 8) (.t 25), none, []⟩] false [2, 3, 5, 6, 7, 8])
 (.seq (.seq (.region 0 [
 ⟨0, some 26, .faddr 0 (.t 2), none, []⟩,
 ⟨1, some 27, .load none (.t 26), none, []⟩,
 ⟨2, some 28, .len 1 (.t 27), none, []⟩,
 ⟨3, some 29, .mv (.k (.sc (.int .i64 0))), none, []⟩] false [3, 5, 6, 7, 8, 27, 28, 29])
 (.block 2 (a5V)))
 (.region 0 [
 ⟨0, some 62, .faddr 11 (.t 5), none, []⟩,
 ⟨1, some 63, .loadT (.t 62), none, []⟩,
 ⟨2, some 64, .load (some 4) (.t 8), none, []⟩,
 ⟨3, some 65, .bslice 4 1 [.int .i64 0, .int .i64 0, .int .i64 0, .sl .nil 1 []] [(0, .t 64)], none, []⟩,
 ⟨4, some 66, .append 4 (.tk 63) (.t 65), none, []⟩,
 ⟨5, some 67, .faddr 11 (.t 5), none, []⟩,
 ⟨6, none, .store 1 (.t 67) (.tk 66), none, []⟩] false []))))
def a5P : Fn := ⟨2, 69, [(4, some (some 12))],
 (.seq (.region 3 [
 ⟨0, some 2, .box 0 (.t 0), none, []⟩,
 ⟨1, some 3, .box 1 (.t 1), none, []⟩,
 ⟨2, some 4, .alloc 2 [.sl .nil 2 [], .int .i64 0, .int .i64 0, .int .i64 0, .int .i64 0, .int .i64 0, .int .i64 0, .sl .nil 3 [], .sl .nil 2 [], .sl .nil 4 [], .imap true false [], .sl .nil 4 []], none, []⟩] false [2, 3, 4])
 (.seq (.region 2 [
 ⟨0, some 13, .load (some 10) (.t 2), none, []⟩,
 ⟨1, some 14, .kset 0 2, none, [0]⟩,
 ⟨2, some 15, .faddr 8 (.t 2), none, []⟩,
 ⟨3, some 16, .load none (.t 15), none, [1]⟩,
 ⟨4, some 17, .call true (.f 121) [.t 14, .t 16], none, []⟩,
 ⟨5, some 18, .build [.sl .nil 2 [], .int .i64 0, .int .i64 0, .int .i64 0, .int .i64 0, .int .i64 0, .int .i64 0, .sl .nil 3 [], .sl .nil 2 [], .sl .nil 4 [], .imap true false [], .sl .nil 4 []] [(0, 10, .t 13), (10, 1, .t 17)], none, []⟩,
 ⟨6, some 5, .alloc 1 [.sl .nil 2 [], .int .i64 0, .int .i64 0, .int .i64 0, .int .i64 0, .int .i64 0, .int .i64 0, .sl .nil 3 [], .sl .nil 2 [], .sl .nil 4 [], .imap true false [], .sl .nil 4 []], none, [0, 3]⟩,
 ⟨7, none, .store 12 (.t 5) (.t 18), none, []⟩] true [2, 3, 4, 5])
 (.seq (.region 1 [
 ⟨0, some 19, .load (some 12) (.t 5), none, []⟩,
 ⟨1, some 20, .mkf 171 [some 12] [.t 19] [], none, []⟩,
 ⟨2, some 6, .alloc 0 [.nilf], none, []⟩,
 ⟨3, none, .store 1 (.t 6) (.t 20), none, []⟩] false [2, 3, 4, 5, 6])
 (.seq (.seq (.region 0 [
 ⟨0, some 21, .load (some 12) (.t 5), none, []⟩,
 ⟨1, some 22, .call true (.f 172) [.t 21], none, []⟩] false [2, 3, 4, 5, 6, 22])
 (.block 0 (.rfunc (.t 22) [23] a2x a2y)))
 (.seq (.region 0 [
 ⟨0, some 68, .load (some 12) (.t 5), none, []⟩,
 ⟨1, none, .store 12 (.t 4) (.t 68), none, []⟩] false [4])
 (.ret)))))), false⟩
def d4I : Fn := ⟨2, 21, [(4, none), (5, none)],
 (.seq (.region 1 [
 ⟨0, some 2, .box 0 (.t 0), none, []⟩,
 ⟨1, some 4, .mv (.k (.sc (.sl .nil 3 []))), none, []⟩,
 ⟨2, some 5, .mv (.k (.sc (.int .i64 0))), none, []⟩] false [1, 2])
 (.seq (.seq (.region 0 [
 ⟨0, some 8, .load (some 10) (.t 2), none, []⟩,
 ⟨1, some 9, .call true (.f 119) [.t 8], none, []⟩,
 ⟨2, some 6, .mv (.t 9), none, []⟩] false [1, 2, 6])
 (.seq (.region 0 [
 ⟨0, some 10, .mv (.t 6), none, []⟩,
 ⟨1, some 11, .bin .neq (.t 10) (.k (.sc (.int .i64 0))), none, []⟩] false [1, 2, 6, 11])
 (.cond (.t 11)
 (.seq (.region 0 [
 ⟨0, some 12, .mv (.t 6), none, []⟩,
 ⟨1, some 4, .mv (.k (.sc (.sl .nil 3 []))), none, []⟩,
 ⟨2, some 5, .mv (.t 12), none, []⟩] false [4, 5])
 (.ret))
 (.skip))))
 (.seq (.seq (.region 0 [
 ⟨0, some 13, .mv (.t 1), none, []⟩,
 ⟨1, some 14, .un .not (.t 13), none, []⟩] false [2, 14])
 (.cond (.t 14)
 (.seq (.region 0 [
 ⟨0, some 4, .mv (.k (.sc (.sl .nil 3 []))), none, []⟩,
 ⟨1, some 5, .mv (.k (.sc (.int .i64 41))), none, []⟩] false [4, 5])
 (.ret))
 (.skip)))
 (.seq (.region 0 [
 ⟨0, some 15, .load (some 10) (.t 2), none, []⟩,
 ⟨1, some 16, .call true (.f 147) [.t 15, .k (.sc (.int .i64 0))], none, []⟩,
 ⟨2, some 7, .mv (.t 16), none, []⟩] false [7])
 (.seq (.seq (.region 0 [
 ⟨0, some 17, .mv (.t 7), none, []⟩,
 ⟨1, some 18, .len 1 (.t 17), none, []⟩,
 ⟨2, some 19, .bin .eql (.t 18) (.k (.sc (.int .i64 0))), none, []⟩] false [7, 19])
 (.cond (.t 19)
 (.seq (.region 0 [
 ⟨0, some 4, .mv (.k (.sc (.sl .nil 3 []))), none, []⟩,
 ⟨1, some 5, .mv (.k (.sc (.int .i64 42))), none, []⟩] false [4, 5])
 (.ret))
 (.skip)))
 (.seq (.region 0 [
 ⟨0, some 20, .mv (.t 7), none, []⟩,
 ⟨1, some 4, .mv (.t 20), none, []⟩,
 ⟨2, some 5, .mv (.k (.sc (.int .i64 0))), none, []⟩] false [4, 5])
 (.ret))))))), false⟩
def d4G : Fn := ⟨2, 25, [(4, none)],
 (.seq (.region 2 [
 ⟨0, some 2, .box 0 (.t 0), none, []⟩,
 ⟨1, some 3, .box 1 (.t 1), none, []⟩,
 ⟨2, some 4, .mv (.k (.sc (.bool false))), none, []⟩] false [2, 3])
 (.seq (.region 0 [
 ⟨0, some 5, .load (some 10) (.t 2), none, []⟩,
 ⟨1, some 6, .faddr 0 (.t 3), none, []⟩,
 ⟨2, some 7, .load none (.t 6), none, []⟩,
 ⟨3, some 8, .call true (.f 157) [.t 5, .t 7], none, []⟩,
 ⟨4, some 9, .mv (.t 8), none, []⟩,
 ⟨5, some 10, .load (some 10) (.t 2), some (9, true), []⟩,
 ⟨6, some 11, .faddr 1 (.t 3), some (9, true), []⟩,
 ⟨7, some 12, .load none (.t 11), some (9, true), []⟩,
 ⟨8, some 13, .call true (.f 156) [.t 10, .t 12], some (9, true), []⟩,
 ⟨9, some 14, .pick (.t 9) (.t 13) (.k (.sc (.bool false))), none, []⟩,
 ⟨10, some 15, .mv (.t 14), none, []⟩,
 ⟨11, some 16, .faddr 2 (.t 3), some (15, true), []⟩,
 ⟨12, some 17, .load none (.t 16), some (15, true), []⟩,
 ⟨13, some 18, .call true (.f 29) [.t 17, .k (.sc (.int .i64 (-150))), .k (.sc (.int .i64 30))], some (15, true), []⟩,
 ⟨14, some 19, .pick (.t 15) (.t 18) (.k (.sc (.bool false))), none, []⟩,
 ⟨15, some 20, .mv (.t 19), none, []⟩,
 ⟨16, some 21, .faddr 3 (.t 3), some (20, true), []⟩,
 ⟨17, some 22, .load none (.t 21), some (20, true), []⟩,
 ⟨18, some 23, .call true (.f 29) [.t 22, .k (.sc (.int .i64 0)), .k (.sc (.int .i64 3))], some (20, true), []⟩,
 ⟨19, some 24, .pick (.t 20) (.t 23) (.k (.sc (.bool false))), none, []⟩,
 ⟨20, some 4, .mv (.t 24), none, []⟩] false [4])
 (.ret))), false⟩
def d4L : AC :=
 (.seq (.seq (.region 0 [
 ⟨0, some 52, .mv (.t 10), none, []⟩,
 ⟨1, some 53, .mv (.t 52), none, []⟩,
 ⟨2, some 54, .mv (.t 11), some (53, true), []⟩,
 ⟨3, some 55, .faddr 0 (.t 2), some (53, true), []⟩,
 ⟨4, some 56, .load none (.t 55), some (53, true), []⟩,
 ⟨5, some 57, .len 1 (.t 56), some (53, true), []⟩,
 ⟨6, some 58, .bin .lss (.t 54) (.t 57), some (53, true), []⟩,
 ⟨7, some 59, .pick (.t 53) (.t 58) (.k (.sc (.bool false))), none, []⟩] false [1, 2, 5, 6, 7, 8, 9, 10, 11, 59])
 (.cond (.t 59)
 (.skip)
 (.exit 6)))
 (.seq (.block 7 (.region 0 [
 ⟨0, some 62, .load (some 10) (.t 2), none, []⟩,
 ⟨1, some 63, .load (some 3) (.t 9), none, []⟩,
 ⟨2, some 64, .mv (.t 11), none, []⟩,
 ⟨3, some 65, .mv (.t 1), none, []⟩,
 ⟨4, some 66, .call true (.f 173) [.t 62, .t 63, .t 64, .t 65], none, []⟩,
 ⟨5, some 67, .len 1 (.t 66), none, []⟩,
 ⟨6, some 68, .bin .gtr (.t 67) (.k (.sc (.int .i64 0))), none, []⟩,
 ⟨7, some 10, .mv (.t 68), none, []⟩] false [1, 2, 5, 6, 7, 8, 9, 10, 11]))
 (.region 0 [
 ⟨0, some 60, .mv (.t 11), none, []⟩,
 ⟨1, some 61, .bin .add (.t 60) (.k (.sc (.int .i64 1))), none, []⟩,
 ⟨2, some 11, .mv (.t 61), none, []⟩] false [1, 2, 5, 6, 7, 8, 9, 10, 11])))
def d5r : AC := .loop [1, 2, 5, 6, 7, 8, 9, 10, 11] d4L
def d4W : AC :=
 (.seq (.seq (.region 0 [
 ⟨0, some 40, .mv (.t 8), none, []⟩,
 ⟨1, some 41, .faddr 1 (.t 2), none, []⟩,
 ⟨2, some 42, .iarr 3 2 (.t 41) (.k (.sc (.int .i64 2))), none, []⟩,
 ⟨3, some 43, .faddr 1 (.t 42), none, []⟩,
 ⟨4, some 44, .load none (.t 43), none, []⟩,
 ⟨5, some 45, .bin .leq (.t 40) (.t 44), none, []⟩] false [1, 2, 5, 6, 7, 8, 45])
 (.cond (.t 45)
 (.skip)
 (.exit 4)))
 (.seq (.block 5 (.seq (.region 1 [
 ⟨0, some 48, .mv (.t 6), none, []⟩,
 ⟨1, some 49, .mv (.t 7), none, []⟩,
 ⟨2, some 50, .mv (.t 8), none, []⟩,
 ⟨3, some 51, .build [.int .i64 0, .int .i64 0, .int .i64 0] [(0, 1, .t 48), (1, 1, .t 49), (2, 1, .t 50)], none, []⟩,
 ⟨4, some 9, .alloc 0 [.int .i64 0, .int .i64 0, .int .i64 0], none, []⟩,
 ⟨5, none, .store 3 (.t 9) (.t 51), none, []⟩,
 ⟨6, some 10, .mv (.k (.sc (.bool true))), none, []⟩] false [1, 2, 5, 6, 7, 8, 9, 10])
 (.seq (.seq (.region 0 [
 ⟨0, some 11, .mv (.k (.sc (.int .i64 0))), none, []⟩] false [1, 2, 5, 6, 7, 8, 9, 10, 11])
 (.block 6 (d5r)))
 (.seq (.region 0 [
 ⟨0, some 69, .mv (.t 10), none, []⟩] false [1, 2, 5, 6, 7, 8, 9, 69])
 (.cond (.t 69)
 (.region 0 [
 ⟨0, some 70, .mv (.tk 5), none, []⟩,
 ⟨1, some 71, .load (some 3) (.t 9), none, []⟩,
 ⟨2, some 72, .bslice 3 1 [.int .i64 0, .int .i64 0, .int .i64 0] [(0, .t 71)], none, []⟩,
 ⟨3, some 73, .append 3 (.tk 70) (.t 72), none, []⟩,
 ⟨4, some 5, .mv (.tk 73), none, []⟩] false [1, 2, 5, 6, 7, 8])
 (.skip))))))
 (.region 0 [
 ⟨0, some 46, .mv (.t 8), none, []⟩,
 ⟨1, some 47, .bin .add (.t 46) (.k (.sc (.int .i64 1))), none, []⟩,
 ⟨2, some 8, .mv (.t 47), none, []⟩] false [1, 2, 5, 6, 7, 8])))
def d5q : AC := .loop [1, 2, 5, 6, 7, 8] d4W
def d4V : AC :=
 (.seq (.seq (.region 0 [
 ⟨0, some 28, .mv (.t 7), none, []⟩,
 ⟨1, some 29, .faddr 1 (.t 2), none, []⟩,
 ⟨2, some 30, .iarr 3 2 (.t 29) (.k (.sc (.int .i64 1))), none, []⟩,
 ⟨3, some 31, .faddr 1 (.t 30), none, []⟩,
 ⟨4, some 32, .load none (.t 31), none, []⟩,
 ⟨5, some 33, .bin .leq (.t 28) (.t 32), none, []⟩] false [1, 2, 5, 6, 7, 33])
 (.cond (.t 33)
 (.skip)
 (.exit 2)))
 (.seq (.block 3 (.seq (.region 0 [
 ⟨0, some 36, .faddr 1 (.t 2), none, []⟩,
 ⟨1, some 37, .iarr 3 2 (.t 36) (.k (.sc (.int .i64 2))), none, []⟩,
 ⟨2, some 38, .faddr 0 (.t 37), none, []⟩,
 ⟨3, some 39, .load none (.t 38), none, []⟩,
 ⟨4, some 8, .mv (.t 39), none, []⟩] false [1, 2, 5, 6, 7, 8])
 (.block 4 (d5q))))
 (.region 0 [
 ⟨0, some 34, .mv (.t 7), none, []⟩,
 ⟨1, some 35, .bin .add (.t 34) (.k (.sc (.int .i64 1))), none, []⟩,
 ⟨2, some 7, .mv (.t 35), none, []⟩] false [1, 2, 5, 6, 7])))
def d5p : AC := .loop [1, 2, 5, 6, 7] d4V
def d4U : AC :=
 (.seq (.seq (.region 0 [
 ⟨0, some 16, .mv (.t 6), none, []⟩,
 ⟨1, some 17, .faddr 1 (.t 2), none, []⟩,
 ⟨2, some 18, .iarr 3 2 (.t 17) (.k (.sc (.int .i64 0))), none, []⟩,
 ⟨3, some 19, .faddr 1 (.t 18), none, []⟩,
 ⟨4, some 20, .load none (.t 19), none, []⟩,
 ⟨5, some 21, .bin .leq (.t 16) (.t 20), none, []⟩] false [1, 2, 5, 6, 21])
 (.cond (.t 21)
 (.skip)
 (.exit 0)))
 (.seq (.block 1 (.seq (.region 0 [
 ⟨0, some 24, .faddr 1 (.t 2), none, []⟩,
 ⟨1, some 25, .iarr 3 2 (.t 24) (.k (.sc (.int .i64 1))), none, []⟩,
 ⟨2, some 26, .faddr 0 (.t 25), none, []⟩,
 ⟨3, some 27, .load none (.t 26), none, []⟩,
 ⟨4, some 7, .mv (.t 27), none, []⟩] false [1, 2, 5, 6, 7])
 (.block 2 (d5p))))
 (.region 0 [
 ⟨0, some 22, .mv (.t 6), none, []⟩,
 ⟨1, some 23, .bin .add (.t 22) (.k (.sc (.int .i64 1))), none, []⟩,
 ⟨2, some 6, .mv (.t 23), none, []⟩] false [1, 2, 5, 6])))
def d5o : AC := .loop [1, 2, 5, 6] d4U
def d5d : Fn := ⟨2, 75, [(4, none)],
 (.seq (.region 1 [
 ⟨0, some 2, .box 0 (.t 0), none, []⟩,
 ⟨1, some 4, .mv (.k (.sc (.sl .nil 3 []))), none, []⟩] false [1, 2])
 (.seq (.region 0 [
 ⟨0, some 5, .mv (.k (.sc (.sl .nil 3 []))), none, []⟩] false [1, 2, 5])
 (.seq (.seq (.region 0 [
 ⟨0, some 12, .faddr 1 (.t 2), none, []⟩,
 ⟨1, some 13, .iarr 3 2 (.t 12) (.k (.sc (.int .i64 0))), none, []⟩,
 ⟨2, some 14, .faddr 0 (.t 13), none, []⟩,
 ⟨3, some 15, .load none (.t 14), none, []⟩,
 ⟨4, some 6, .mv (.t 15), none, []⟩] false [1, 2, 5, 6])
 (.block 0 (d5o)))
 (.seq (.region 0 [
 ⟨0, some 74, .mv (.t 5), none, []⟩,
 ⟨1, some 4, .mv (.t 74), none, []⟩] false [4])
 (.ret))))), false⟩
def a1G : AC :=
 (.seq (.seq (.region 0 [
 ⟨0, some 34, .mv (.t 10), none, []⟩,
 ⟨1, some 35, .faddr 9 (.t 2), none, []⟩,
 ⟨2, some 36, .load none (.t 35), none, []⟩,
 ⟨3, some 37, .len 1 (.t 36), none, []⟩,
 ⟨4, some 38, .bin .lss (.t 34) (.t 37), none, []⟩] false [0, 1, 2, 3, 8, 10, 38])
 (.cond (.t 38)
 (.skip)
 (.exit 0)))
 (.seq (.block 1 (.seq (.region 0 [
 ⟨0, some 42, .load none (.t 3), none, []⟩,
 ⟨1, some 43, .mv (.t 0), none, []⟩,
 ⟨2, some 44, .mv (.t 8), none, []⟩,
 ⟨3, some 45, .mv (.t 8), none, []⟩,
 ⟨4, some 46, .slice 1 (.t 43) none (some (.t 44)) (some (.t 45)), none, []⟩,
 ⟨5, some 47, .mv (.t 10), none, []⟩,
 ⟨6, some 48, .bslice 1 1 [.int .i64 0] [(0, .t 47)], none, []⟩,
 ⟨7, some 49, .append 1 (.tk 46) (.t 48), none, []⟩,
 ⟨8, some 50, .mv (.t 1), none, []⟩,
 ⟨9, some 51, .call false (.t 42) [.t 49, .t 50], none, []⟩,
 ⟨10, some 41, .mv (.t 51), none, []⟩,
 ⟨11, some 52, .ext (.t 41) 0, none, []⟩,
 ⟨12, some 53, .ext (.t 41) 1, none, []⟩,
 ⟨13, some 11, .mv (.t 52), none, []⟩,
 ⟨14, some 12, .mv (.t 53), none, []⟩] true [0, 1, 2, 3, 8, 10, 11, 12])
 (.seq (.region 0 [
 ⟨0, some 54, .mv (.t 12), none, []⟩] false [0, 1, 2, 3, 8, 10, 11, 54])
 (.cond (.t 54)
 (.seq (.region 0 [
 ⟨0, some 55, .mv (.t 11), none, []⟩,
 ⟨1, some 6, .mv (.t 55), none, []⟩,
 ⟨2, some 7, .mv (.k (.sc (.bool true))), none, []⟩] false [6, 7])
 (.ret))
 (.skip)))))
 (.region 0 [
 ⟨0, some 39, .mv (.t 10), none, []⟩,
 ⟨1, some 40, .bin .add (.t 39) (.k (.sc (.int .i64 1))), none, []⟩,
 ⟨2, some 10, .mv (.t 40), none, []⟩] false [0, 1, 2, 3, 8, 10])))
def a5x : AC := .loop [0, 1, 2, 3, 8, 10] a1G
def a1d : Fn := ⟨4, 56, [(6, none), (7, none)],
 (.seq (.region 0 [
 ⟨0, some 6, .mv (.k (.sc (.sl .nil 1 []))), none, []⟩,
 ⟨1, some 7, .mv (.k (.sc (.bool false))), none, []⟩] false [0, 1, 2, 3])
 (.seq (.region 0 [
 ⟨0, some 13, .mv (.t 0), none, []⟩,
 ⟨1, some 14, .len 1 (.t 13), none, []⟩,
 ⟨2, some 8, .mv (.t 14), none, []⟩] false [0, 1, 2, 3, 8])
 (.seq (.seq (.region 0 [
 ⟨0, some 15, .mv (.t 8), none, []⟩,
 ⟨1, some 16, .mv (.t 1), none, []⟩,
 ⟨2, some 17, .bin .eql (.t 15) (.t 16), none, []⟩] false [0, 1, 2, 3, 8, 17])
 (.cond (.t 17)
 (.seq (.region 0 [
 ⟨0, some 18, .mv (.t 0), none, []⟩,
 ⟨1, some 19, .load (some 10) (.t 2), none, []⟩,
 ⟨2, some 20, .mv (.t 0), none, []⟩,
 ⟨3, some 21, .call true (.f 144) [.t 19, .t 20], none, []⟩,
 ⟨4, some 22, .field 11 none (.t 21), none, []⟩,
 ⟨5, some 23, .len 1 (.t 22), none, []⟩,
 ⟨6, some 24, .bin .gtr (.t 23) (.k (.sc (.int .i64 0))), none, []⟩,
 ⟨7, some 6, .mv (.t 18), none, []⟩,
 ⟨8, some 7, .mv (.t 24), none, []⟩] false [6, 7])
 (.ret))
 (.skip)))
 (.seq (.region 0 [
 ⟨0, some 9, .mv (.k (.sc (.int .i64 0))), none, []⟩] false [0, 1, 2, 3, 8, 9])
 (.seq (.seq (.region 0 [
 ⟨0, some 25, .mv (.t 8), none, []⟩,
 ⟨1, some 26, .bin .gtr (.t 25) (.k (.sc (.int .i64 0))), none, []⟩] false [0, 1, 2, 3, 8, 9, 26])
 (.cond (.t 26)
 (.region 0 [
 ⟨0, some 27, .mv (.t 0), none, []⟩,
 ⟨1, some 28, .mv (.t 8), none, []⟩,
 ⟨2, some 29, .bin .sub (.t 28) (.k (.sc (.int .i64 1))), none, []⟩,
 ⟨3, some 30, .iaddr 1 (.t 27) (.t 29), none, []⟩,
 ⟨4, some 31, .load none (.t 30), none, []⟩,
 ⟨5, some 32, .bin .add (.t 31) (.k (.sc (.int .i64 1))), none, []⟩,
 ⟨6, some 9, .mv (.t 32), none, []⟩] false [0, 1, 2, 3, 8, 9])
 (.skip)))
 (.seq (.seq (.region 0 [
 ⟨0, some 33, .mv (.t 9), none, []⟩,
 ⟨1, some 10, .mv (.t 33), none, []⟩] false [0, 1, 2, 3, 8, 10])
 (.block 0 (a5x)))
 (.seq (.region 0 [
 ⟨0, some 6, .mv (.k (.sc (.sl .nil 1 []))), none, []⟩,
 ⟨1, some 7, .mv (.k (.sc (.bool false))), none, []⟩] false [6, 7])
 (.ret)))))))), false⟩
def a4b : Fn := ⟨0, 2, [(0, some (some 10))],
 (.seq (.region 1 [
 ⟨0, some 0, .alloc 0 [.sl .nil 2 [], .int .i64 0, .int .i64 0, .int .i64 0, .int .i64 0, .int .i64 0, .int .i64 0, .sl .nil 3 [], .sl .nil 2 [], .sl .nil 4 []], none, []⟩] false [0])
 (.seq (.region 0 [
 ⟨0, some 1, .call true (.f 168) [.k (.sc (.int .i64 2)), .k (.sc (.sl .nil 4 []))], none, []⟩,
 ⟨1, none, .store 10 (.t 0) (.t 1), none, []⟩] false [0])
 (.ret))), false⟩
def a2v : Fn := ⟨4, 35, [(8, none)],
 (.seq (.region 1 [
 ⟨0, some 4, .box 0 (.t 0), none, []⟩,
 ⟨1, some 8, .mv (.k (.sc (.bool false))), none, []⟩] false [1, 2, 3, 4])
 (.seq (.region 0 [
 ⟨0, some 9, .mv (.t 1), none, []⟩,
 ⟨1, some 10, .faddr 0 (.t 4), none, []⟩,
 ⟨2, some 11, .load none (.t 10), none, []⟩,
 ⟨3, some 12, .bin .leq (.t 9) (.t 11), none, []⟩,
 ⟨4, some 13, .mv (.t 12), none, []⟩,
 ⟨5, some 14, .faddr 0 (.t 4), some (13, true), []⟩,
 ⟨6, some 15, .load none (.t 14), some (13, true), []⟩,
 ⟨7, some 16, .faddr 1 (.t 4), some (13, true), []⟩,
 ⟨8, some 17, .load none (.t 16), some (13, true), []⟩,
 ⟨9, some 18, .bin .leq (.t 15) (.t 17), some (13, true), []⟩,
 ⟨10, some 19, .pick (.t 13) (.t 18) (.k (.sc (.bool false))), none, []⟩,
 ⟨11, some 20, .mv (.t 19), none, []⟩,
 ⟨12, some 21, .faddr 1 (.t 4), some (20, true), []⟩,
 ⟨13, some 22, .load none (.t 21), some (20, true), []⟩,
 ⟨14, some 23, .mv (.t 2), some (20, true), []⟩,
 ⟨15, some 24, .bin .leq (.t 22) (.t 23), some (20, true), []⟩,
 ⟨16, some 25, .pick (.t 20) (.t 24) (.k (.sc (.bool false))), none, []⟩,
 ⟨17, some 26, .mv (.t 25), none, []⟩,
 ⟨18, some 27, .faddr 1 (.t 4), some (26, true), []⟩,
 ⟨19, some 28, .load none (.t 27), some (26, true), []⟩,
 ⟨20, some 29, .faddr 0 (.t 4), some (26, true), []⟩,
 ⟨21, some 30, .load none (.t 29), some (26, true), []⟩,
 ⟨22, some 31, .bin .sub (.t 28) (.t 30), some (26, true), []⟩,
 ⟨23, some 32, .mv (.t 3), some (26, true), []⟩,
 ⟨24, some 33, .bin .leq (.t 31) (.t 32), some (26, true), []⟩,
 ⟨25, some 34, .pick (.t 26) (.t 33) (.k (.sc (.bool false))), none, []⟩,
 ⟨26, some 8, .mv (.t 34), none, []⟩] false [8])
 (.ret))), false⟩
def a2m : AC :=
 (.seq (.region 0 [
 ⟨0, some 10, .bin .lss (.t 9) (.t 8), none, []⟩] false [3, 7, 8, 9, 10])
 (.seq (.cond (.t 10)
 (.skip)
 (.exit 0))
 (.seq (.block 1 (.seq (.region 1 [
 ⟨0, some 11, .iaddr 4 (.t 7) (.t 9), none, []⟩,
 ⟨1, some 12, .load (some 4) (.t 11), none, []⟩,
 ⟨2, some 5, .alloc 0 [.int .i64 0, .int .i64 0, .int .i64 0, .int .i64 0], none, []⟩,
 ⟨3, none, .store 4 (.t 5) (.t 12), none, []⟩] false [3, 5, 7, 8, 9])
 (.region 0 [
 ⟨0, some 13, .mv (.t 3), none, []⟩,
 ⟨1, some 14, .faddr 1 (.t 5), none, []⟩,
 ⟨2, some 15, .load none (.t 14), none, []⟩,
 ⟨3, some 16, .bin .add (.t 15) (.k (.sc (.int .i64 1))), none, []⟩,
 ⟨4, some 17, .max (.t 13) [.t 16], none, []⟩,
 ⟨5, some 3, .mv (.t 17), none, []⟩] false [3, 7, 8, 9])))
 (.region 0 [
 ⟨0, some 18, .bin .add (.t 9) (.k (.sc (.int .i64 1))), none, []⟩,
 ⟨1, some 9, .mv (.t 18), none, []⟩] false [3, 7, 8, 9]))))
def a9d : AC := .loop [3, 7, 8, 9] a2m
def a7d : Fn := ⟨1, 20, [(2, none)],
 (.seq (.region 1 [
 ⟨0, some 1, .box 0 (.t 0), none, []⟩,
 ⟨1, some 2, .mv (.k (.sc (.int .i64 0))), none, []⟩] false [1])
 (.seq (.region 0 [
 ⟨0, some 3, .mv (.k (.sc (.int .i64 0))), none, []⟩] false [1, 3])
 (.seq (.seq (.region 0 [
 ⟨0, some 6, .faddr 9 (.t 1), none, []⟩,
 ⟨1, some 7, .load none (.t 6), none, []⟩,
 ⟨2, some 8, .len 1 (.t 7), none, []⟩,
 ⟨3, some 9, .mv (.k (.sc (.int .i64 0))), none, []⟩] false [3, 7, 8, 9])
 (.block 0 (a9d)))
 (.seq (.region 0 [
 ⟨0, some 19, .mv (.t 3), none, []⟩,
 ⟨1, some 2, .mv (.t 19), none, []⟩] false [2])
 (.ret))))), false⟩
def a3V : Fn := ⟨4, 21, [(8, none)],
 (.seq (.region 1 [
 ⟨0, some 4, .box 0 (.t 0), none, []⟩,
 ⟨1, some 8, .mv (.k (.sc (.bool false))), none, []⟩] false [1, 2, 3, 4])
 (.seq (.region 0 [
 ⟨0, some 9, .load (some 12) (.t 4), none, []⟩,
 ⟨1, some 10, .mv (.t 1), none, []⟩,
 ⟨2, some 11, .mv (.t 2), none, []⟩,
 ⟨3, some 12, .mv (.t 3), none, []⟩,
 ⟨4, some 13, .call true (.f 145) [.t 9, .t 10, .t 11, .t 12], none, []⟩,
 ⟨5, some 14, .mv (.t 13), none, []⟩,
 ⟨6, some 15, .load (some 12) (.t 4), some (14, false), []⟩,
 ⟨7, some 16, .mv (.t 1), some (14, false), []⟩,
 ⟨8, some 17, .mv (.t 2), some (14, false), []⟩,
 ⟨9, some 18, .mv (.t 3), some (14, false), []⟩,
 ⟨10, some 19, .call true (.f 146) [.t 15, .t 16, .t 17, .t 18], some (14, false), []⟩,
 ⟨11, some 20, .pick (.t 14) (.k (.sc (.bool true))) (.t 19), none, []⟩,
 ⟨12, some 8, .mv (.t 20), none, []⟩] false [8])
 (.ret))), false⟩
def a5b : Fn := ⟨2, 11, [(4, none)],
 (.seq (.region 1 [
 ⟨0, some 2, .box 0 (.t 0), none, []⟩,
 ⟨1, some 4, .mv (.k (.sc (.bool false))), none, []⟩] false [1, 2])
 (.seq (.region 0 [
 ⟨0, some 5, .mv (.t 1), none, []⟩,
 ⟨1, some 6, .faddr 0 (.t 2), none, []⟩,
 ⟨2, some 7, .load none (.t 6), none, []⟩,
 ⟨3, some 8, .len 1 (.t 7), none, []⟩,
 ⟨4, some 9, .bin .sub (.t 8) (.k (.sc (.int .i64 1))), none, []⟩,
 ⟨5, some 10, .call true (.f 150) [.t 5, .k (.sc (.int .i64 0)), .t 9], none, []⟩,
 ⟨6, some 4, .mv (.t 10), none, []⟩] false [4])
 (.ret))), false⟩
def a6G : Fn := ⟨2, 11, [(4, none)],
 (.seq (.region 1 [
 ⟨0, some 2, .box 0 (.t 0), none, []⟩,
 ⟨1, some 4, .mv (.k (.sc (.bool false))), none, []⟩] false [1, 2])
 (.seq (.region 0 [
 ⟨0, some 5, .mv (.t 1), none, []⟩,
 ⟨1, some 6, .faddr 7 (.t 2), none, []⟩,
 ⟨2, some 7, .load none (.t 6), none, []⟩,
 ⟨3, some 8, .len 1 (.t 7), none, []⟩,
 ⟨4, some 9, .bin .sub (.t 8) (.k (.sc (.int .i64 1))), none, []⟩,
 ⟨5, some 10, .call true (.f 150) [.t 5, .k (.sc (.int .i64 0)), .t 9], none, []⟩,
 ⟨6, some 4, .mv (.t 10), none, []⟩] false [4])
 (.ret))), false⟩
def a1E : AC :=
 (.seq (.region 0 [
 ⟨0, some 28, .bin .lss (.t 27) (.t 26), none, []⟩] false [1, 2, 3, 4, 8, 9, 11, 15, 16, 17, 25, 26, 27, 28])
 (.seq (.cond (.t 28)
 (.skip)
 (.exit 2))
 (.seq (.block 3 (.seq (.region 0 [
 ⟨0, some 29, .iaddr 1 (.t 25) (.t 27), none, []⟩,
 ⟨1, some 30, .load none (.t 29), none, []⟩,
 ⟨2, some 13, .mv (.t 30), none, []⟩] false [1, 2, 3, 4, 8, 9, 11, 13, 15, 16, 17, 25, 26, 27])
 (.region 0 [
 ⟨0, some 31, .mv (.tk 9), none, []⟩,
 ⟨1, some 32, .load (some 12) (.t 4), none, []⟩,
 ⟨2, some 33, .faddr 0 (.t 11), none, []⟩,
 ⟨3, some 34, .load (some 3) (.t 33), none, []⟩,
 ⟨4, some 35, .mv (.t 1), none, []⟩,
 ⟨5, some 36, .mv (.t 13), none, []⟩,
 ⟨6, some 37, .mv (.t 2), none, []⟩,
 ⟨7, some 38, .mv (.t 3), none, []⟩,
 ⟨8, some 39, .call true (.f 188) [.t 32, .t 34, .t 35, .t 36, .t 37, .t 38], none, []⟩,
 ⟨9, some 40, .bslice 1 1 [.int .i64 0] [(0, .t 39)], none, []⟩,
 ⟨10, some 41, .append 1 (.tk 31) (.t 40), none, []⟩,
 ⟨11, some 9, .mv (.tk 41), none, []⟩] false [1, 2, 3, 4, 8, 9, 11, 15, 16, 17, 25, 26, 27])))
 (.region 0 [
 ⟨0, some 42, .bin .add (.t 27) (.k (.sc (.int .i64 1))), none, []⟩,
 ⟨1, some 27, .mv (.t 42), none, []⟩] false [1, 2, 3, 4, 8, 9, 11, 15, 16, 17, 25, 26, 27]))))
def a6L : AC := .loop [1, 2, 3, 4, 8, 9, 11, 15, 16, 17, 25, 26, 27] a1E
def a1D : AC :=
 (.seq (.region 0 [
 ⟨0, some 18, .bin .lss (.t 17) (.t 16), none, []⟩] false [1, 2, 3, 4, 8, 9, 15, 16, 17, 18])
 (.seq (.cond (.t 18)
 (.skip)
 (.exit 0))
 (.seq (.block 1 (.seq (.region 1 [
 ⟨0, some 19, .iaddr 4 (.t 15) (.t 17), none, []⟩,
 ⟨1, some 20, .load (some 4) (.t 19), none, []⟩,
 ⟨2, some 11, .alloc 0 [.int .i64 0, .int .i64 0, .int .i64 0, .sl .nil 1 []], none, []⟩,
 ⟨3, none, .store 4 (.t 11) (.t 20), none, []⟩] false [1, 2, 3, 4, 8, 9, 11, 15, 16, 17])
 (.seq (.region 0 [
 ⟨0, some 21, .faddr 3 (.t 11), none, []⟩,
 ⟨1, some 22, .load none (.t 21), none, []⟩,
 ⟨2, some 23, .mv (.t 1), none, []⟩,
 ⟨3, some 24, .iaddr 1 (.t 22) (.t 23), none, []⟩,
 ⟨4, some 25, .load none (.t 24), none, []⟩,
 ⟨5, some 26, .len 1 (.t 25), none, []⟩,
 ⟨6, some 27, .mv (.k (.sc (.int .i64 0))), none, []⟩] false [1, 2, 3, 4, 8, 9, 11, 15, 16, 17, 25, 26, 27])
 (.block 2 (a6L)))))
 (.region 0 [
 ⟨0, some 43, .bin .add (.t 17) (.k (.sc (.int .i64 1))), none, []⟩,
 ⟨1, some 17, .mv (.t 43), none, []⟩] false [1, 2, 3, 4, 8, 9, 15, 16, 17]))))
def a6K : AC := .loop [1, 2, 3, 4, 8, 9, 15, 16, 17] a1D
def a4H : Fn := ⟨4, 52, [(8, some (some 2))],
 (.seq (.region 2 [
 ⟨0, some 4, .box 0 (.t 0), none, []⟩,
 ⟨1, some 8, .alloc 1 [.int .i64 0, .int .i64 0], none, []⟩] false [1, 2, 3, 4, 8])
 (.seq (.region 0 [
 ⟨0, some 9, .mv (.k (.sc (.sl .nil 1 []))), none, []⟩] false [1, 2, 3, 4, 8, 9])
 (.seq (.seq (.region 0 [
 ⟨0, some 14, .faddr 11 (.t 4), none, []⟩,
 ⟨1, some 15, .load none (.t 14), none, []⟩,
 ⟨2, some 16, .len 1 (.t 15), none, []⟩,
 ⟨3, some 17, .mv (.k (.sc (.int .i64 0))), none, []⟩] false [1, 2, 3, 4, 8, 9, 15, 16, 17])
 (.block 0 (a6K)))
 (.seq (.region 0 [
 ⟨0, some 44, .mv (.t 9), none, []⟩,
 ⟨1, some 45, .iaddr 1 (.t 44) (.k (.sc (.int .i64 0))), none, []⟩,
 ⟨2, some 46, .load none (.t 45), none, []⟩,
 ⟨3, some 47, .mv (.t 9), none, []⟩,
 ⟨4, some 48, .call true (.f 169) [.t 46, .t 47], none, []⟩,
 ⟨5, some 49, .mv (.t 9), none, []⟩,
 ⟨6, some 50, .call true (.f 189) [.t 49], none, []⟩,
 ⟨7, some 51, .build [.int .i64 0, .int .i64 0] [(0, 1, .t 48), (1, 1, .t 50)], none, []⟩,
 ⟨8, none, .store 2 (.t 8) (.t 51), none, []⟩] false [8])
 (.ret))))), false⟩
def a3U : Fn := ⟨4, 16, [(8, none)],
 (.seq (.region 1 [
 ⟨0, some 4, .box 0 (.t 0), none, []⟩,
 ⟨1, some 8, .mv (.k (.sc (.bool false))), none, []⟩] false [1, 2, 3, 4])
 (.seq (.region 0 [
 ⟨0, some 9, .load (some 12) (.t 4), none, []⟩,
 ⟨1, some 10, .mv (.t 1), none, []⟩,
 ⟨2, some 11, .mv (.t 2), none, []⟩,
 ⟨3, some 12, .mv (.t 3), none, []⟩,
 ⟨4, some 13, .call true (.f 167) [.t 9, .t 10, .t 11, .t 12], none, []⟩,
 ⟨5, some 14, .field 0 none (.t 13), none, []⟩,
 ⟨6, some 15, .bin .lss (.t 14) (.k (.sc (.int .i64 0))), none, []⟩,
 ⟨7, some 8, .mv (.t 15), none, []⟩] false [8])
 (.ret))), false⟩
def a0x : AC :=
 (.seq (.region 0 [
 ⟨0, some 10, .bin .lss (.t 9) (.t 8), none, []⟩] false [1, 2, 7, 8, 9, 10])
 (.seq (.cond (.t 10)
 (.skip)
 (.exit 0))
 (.seq (.block 1 (.seq (.region 1 [
 ⟨0, some 11, .mv (.t 9), none, []⟩,
 ⟨1, some 12, .iaddr 2 (.t 7) (.t 9), none, []⟩,
 ⟨2, some 13, .load (some 2) (.t 12), none, []⟩,
 ⟨3, some 6, .alloc 0 [.int .i64 0, .int .i64 0], none, []⟩,
 ⟨4, some 5, .mv (.t 11), none, []⟩,
 ⟨5, none, .store 2 (.t 6) (.t 13), none, []⟩] false [1, 2, 5, 6, 7, 8, 9])
 (.seq (.region 0 [
 ⟨0, some 14, .load (some 10) (.t 2), none, []⟩,
 ⟨1, some 15, .faddr 0 (.t 6), none, []⟩,
 ⟨2, some 16, .load none (.t 15), none, []⟩,
 ⟨3, some 17, .call true (.f 152) [.t 14, .t 16], none, []⟩,
 ⟨4, some 18, .un .not (.t 17), none, []⟩,
 ⟨5, some 19, .mv (.t 18), none, []⟩,
 ⟨6, some 20, .faddr 0 (.t 6), some (19, false), []⟩,
 ⟨7, some 21, .load none (.t 20), some (19, false), []⟩,
 ⟨8, some 22, .load (some 10) (.t 2), some (19, false), []⟩,
 ⟨9, some 23, .call true (.f 112) [.t 22], some (19, false), []⟩,
 ⟨10, some 24, .bin .lss (.t 21) (.t 23), some (19, false), []⟩,
 ⟨11, some 25, .pick (.t 19) (.k (.sc (.bool true))) (.t 24), none, []⟩,
 ⟨12, some 26, .mv (.t 25), none, []⟩,
 ⟨13, some 27, .load (some 10) (.t 2), some (26, false), []⟩,
 ⟨14, some 28, .faddr 1 (.t 6), some (26, false), []⟩,
 ⟨15, some 29, .load none (.t 28), some (26, false), []⟩,
 ⟨16, some 30, .call true (.f 153) [.t 27, .t 29], some (26, false), []⟩,
 ⟨17, some 31, .un .not (.t 30), some (26, false), []⟩,
 ⟨18, some 32, .pick (.t 26) (.k (.sc (.bool true))) (.t 31), none, []⟩,
 ⟨19, some 33, .mv (.t 32), none, []⟩,
 ⟨20, some 34, .faddr 8 (.t 2), some (33, false), []⟩,
 ⟨21, some 35, .load none (.t 34), some (33, false), []⟩,
 ⟨22, some 36, .load (some 2) (.t 6), some (33, false), []⟩,
 ⟨23, some 37, .call true (.f 155) [.t 35, .t 36], some (33, false), []⟩,
 ⟨24, some 38, .pick (.t 33) (.k (.sc (.bool true))) (.t 37), none, []⟩,
 ⟨25, some 39, .mv (.t 38), none, []⟩,
 ⟨26, some 40, .mv (.t 5), some (39, false), []⟩,
 ⟨27, some 41, .bin .gtr (.t 40) (.k (.sc (.int .i64 0))), some (39, false), []⟩,
 ⟨28, some 42, .mv (.t 41), some (39, false), []⟩,
 ⟨29, some 43, .mv (.t 1), some (42, true), []⟩,
 ⟨30, some 44, .mv (.t 5), some (42, true), []⟩,
 ⟨31, some 45, .bin .sub (.t 44) (.k (.sc (.int .i64 1))), some (42, true), []⟩,
 ⟨32, some 46, .iaddr 2 (.t 43) (.t 45), some (42, true), []⟩,
 ⟨33, some 47, .load (some 2) (.t 46), some (42, true), []⟩,
 ⟨34, some 48, .load (some 2) (.t 6), some (42, true), []⟩,
 ⟨35, some 49, .call true (.f 131) [.t 47, .t 48], some (42, true), []⟩,
 ⟨36, some 50, .bin .geq (.t 49) (.k (.sc (.int .i64 0))), some (42, true), []⟩,
 ⟨37, some 51, .pick (.t 42) (.t 50) (.k (.sc (.bool false))), some (39, false), []⟩,
 ⟨38, some 52, .pick (.t 39) (.k (.sc (.bool true))) (.t 51), none, []⟩] true [1, 2, 7, 8, 9, 52])
 (.cond (.t 52)
 (.seq (.region 0 [
 ⟨0, some 4, .mv (.k (.sc (.bool false))), none, []⟩] false [4])
 (.ret))
 (.skip)))))
 (.region 0 [
 ⟨0, some 53, .bin .add (.t 9) (.k (.sc (.int .i64 1))), none, []⟩,
 ⟨1, some 9, .mv (.t 53), none, []⟩] false [1, 2, 7, 8, 9]))))
def b1m : AC := .loop [1, 2, 7, 8, 9] a0x
def a5M : Fn := ⟨2, 54, [(4, none)],
 (.seq (.region 1 [
 ⟨0, some 2, .box 0 (.t 0), none, []⟩,
 ⟨1, some 4, .mv (.k (.sc (.bool false))), none, []⟩] false [1, 2])
 (.seq (.seq (.region 0 [
 ⟨0, some 7, .mv (.t 1), none, []⟩,
 ⟨1, some 8, .len 1 (.t 7), none, []⟩,
 ⟨2, some 9, .mv (.k (.sc (.int .i64 0))), none, []⟩] false [1, 2, 7, 8, 9])
 (.block 0 (b1m)))
 (.seq (.region 0 [
 ⟨0, some 4, .mv (.k (.sc (.bool true))), none, []⟩] false [4])
 (.ret)))), false⟩
def a1s : AC :=
 (.seq (.region 0 [
 ⟨0, some 22, .bin .lss (.t 21) (.t 20), none, []⟩] false [5, 19, 20, 21, 22])
 (.seq (.cond (.t 22)
 (.skip)
 (.exit 2))
 (.seq (.block 3 (.seq (.region 1 [
 ⟨0, some 23, .iaddr 2 (.t 19) (.t 21), none, []⟩,
 ⟨1, some 24, .load (some 2) (.t 23), none, []⟩,
 ⟨2, some 8, .alloc 0 [.int .i64 0, .int .i64 0], none, []⟩,
 ⟨3, none, .store 2 (.t 8) (.t 24), none, []⟩] false [5, 8, 19, 20, 21])
 (.seq (.region 1 [
 ⟨0, some 25, .faddr 0 (.t 8), none, []⟩,
 ⟨1, some 26, .load none (.t 25), none, []⟩,
 ⟨2, some 27, .faddr 1 (.t 8), none, []⟩,
 ⟨3, some 28, .load none (.t 27), none, []⟩,
 ⟨4, some 29, .build [.int .i64 0, .int .i64 0] [(0, 1, .t 26), (1, 1, .t 28)], none, []⟩,
 ⟨5, some 9, .alloc 0 [.int .i64 0, .int .i64 0], none, []⟩,
 ⟨6, none, .store 2 (.t 9) (.t 29), none, []⟩] false [5, 9, 19, 20, 21])
 (.seq (.region 0 [
 ⟨0, some 30, .load (some 2) (.t 9), none, []⟩,
 ⟨1, some 31, .load (some 2) (.g 3), none, []⟩,
 ⟨2, some 32, .eqf true ⟨true, [1, 1]⟩ (.t 30) (.t 31), none, []⟩] false [5, 9, 19, 20, 21, 32])
 (.cond (.t 32)
 (.region 0 [
 ⟨0, some 33, .mv (.t 5), none, []⟩,
 ⟨1, some 34, .load (some 2) (.t 9), none, []⟩,
 ⟨2, none, .sadd 2 (.t 33) (.t 34), none, []⟩] false [5, 19, 20, 21])
 (.skip))))))
 (.region 0 [
 ⟨0, some 35, .bin .add (.t 21) (.k (.sc (.int .i64 1))), none, []⟩,
 ⟨1, some 21, .mv (.t 35), none, []⟩] false [5, 19, 20, 21]))))
def a6H : AC := .loop [5, 19, 20, 21] a1s
def a4h : Fn := ⟨2, 37, [(4, none)],
 (.seq (.region 0 [
 ⟨0, some 4, .mv (.k (.sc (.imap true false []))), none, []⟩] false [0, 1])
 (.seq (.region 1 [
 ⟨0, some 10, .mkset 0 2, none, []⟩,
 ⟨1, some 5, .mv (.t 10), none, []⟩] false [0, 1, 5])
 (.seq (.seq (.region 1 [
 ⟨0, some 11, .mv (.t 0), none, []⟩,
 ⟨1, some 12, .rng 0 (.t 11), none, []⟩] false [1, 5, 12])
 (.union [1, 5] 12 5 2))
 (.seq (.seq (.region 0 [
 ⟨0, some 19, .mv (.t 1), none, []⟩,
 ⟨1, some 20, .len 1 (.t 19), none, []⟩,
 ⟨2, some 21, .mv (.k (.sc (.int .i64 0))), none, []⟩] false [5, 19, 20, 21])
 (.block 2 (a6H)))
 (.seq (.region 0 [
 ⟨0, some 36, .mv (.t 5), none, []⟩,
 ⟨1, some 4, .mv (.t 36), none, []⟩] false [4])
 (.ret)))))), false⟩
def a3E : AC :=
 (.seq (.seq (.region 0 [
 ⟨0, some 11, .mv (.t 7), none, []⟩,
 ⟨1, some 12, .faddr 0 (.t 3), none, []⟩,
 ⟨2, some 13, .faddr 7 (.t 12), none, []⟩,
 ⟨3, some 14, .load none (.t 13), none, []⟩,
 ⟨4, some 15, .len 1 (.t 14), none, []⟩,
 ⟨5, some 16, .bin .lss (.t 11) (.t 15), none, []⟩] false [1, 2, 3, 7, 16])
 (.cond (.t 16)
 (.skip)
 (.exit 0)))
 (.seq (.block 1 (.seq (.region 0 [
 ⟨0, some 19, .load (some 12) (.t 3), none, []⟩,
 ⟨1, some 20, .mv (.t 1), none, []⟩,
 ⟨2, some 21, .mv (.t 7), none, []⟩,
 ⟨3, some 22, .mv (.t 2), none, []⟩,
 ⟨4, some 23, .call true (.f 113) [.t 19, .t 20, .t 21, .t 22], none, []⟩] false [1, 2, 3, 7, 23])
 (.cond (.t 23)
 (.seq (.region 0 [
 ⟨0, some 6, .mv (.k (.sc (.bool false))), none, []⟩] false [6])
 (.ret))
 (.skip))))
 (.region 0 [
 ⟨0, some 17, .mv (.t 7), none, []⟩,
 ⟨1, some 18, .bin .add (.t 17) (.k (.sc (.int .i64 1))), none, []⟩,
 ⟨2, some 7, .mv (.t 18), none, []⟩] false [1, 2, 3, 7])))
def a9K : AC := .loop [1, 2, 3, 7] a3E
def a4I : Fn := ⟨3, 24, [(6, none)],
 (.seq (.region 1 [
 ⟨0, some 3, .box 0 (.t 0), none, []⟩,
 ⟨1, some 6, .mv (.k (.sc (.bool false))), none, []⟩] false [1, 2, 3])
 (.seq (.seq (.region 0 [
 ⟨0, some 8, .faddr 0 (.t 3), none, []⟩,
 ⟨1, some 9, .load (some 10) (.t 8), none, []⟩,
 ⟨2, some 10, .call true (.f 112) [.t 9], none, []⟩,
 ⟨3, some 7, .mv (.t 10), none, []⟩] false [1, 2, 3, 7])
 (.block 0 (a9K)))
 (.seq (.region 0 [
 ⟨0, some 6, .mv (.k (.sc (.bool true))), none, []⟩] false [6])
 (.ret)))), false⟩
def a3g : AC :=
 (.seq (.region 0 [
 ⟨0, some 24, .bin .lss (.t 23) (.t 22), none, []⟩] false [1, 2, 5, 6, 22, 23, 24])
 (.seq (.cond (.t 24)
 (.skip)
 (.exit 2))
 (.seq (.block 3 (.seq (.region 0 [
 ⟨0, some 25, .mv (.t 23), none, []⟩,
 ⟨1, some 7, .mv (.t 25), none, []⟩] false [1, 2, 5, 6, 7, 22, 23])
 (.seq (.region 0 [
 ⟨0, some 26, .mv (.t 1), none, []⟩,
 ⟨1, some 27, .mv (.t 5), none, []⟩,
 ⟨2, some 28, .mv (.t 7), none, []⟩,
 ⟨3, some 29, .build [.int .i64 0, .int .i64 0] [(0, 1, .t 27), (1, 1, .t 28)], none, []⟩,
 ⟨4, some 30, .slook 2 (.t 26) (.t 29), none, []⟩,
 ⟨5, some 31, .un .not (.t 30), none, []⟩] false [1, 2, 5, 6, 22, 23, 31])
 (.cond (.t 31)
 (.region 0 [
 ⟨0, some 32, .mv (.t 6), none, []⟩,
 ⟨1, some 33, .bin .add (.t 32) (.k (.sc (.int .i64 1))), none, []⟩,
 ⟨2, some 6, .mv (.t 33), none, []⟩] false [1, 2, 5, 6, 22, 23])
 (.skip)))))
 (.region 0 [
 ⟨0, some 34, .bin .add (.t 23) (.k (.sc (.int .i64 1))), none, []⟩,
 ⟨1, some 23, .mv (.t 34), none, []⟩] false [1, 2, 5, 6, 22, 23]))))
def a6e : AC := .loop [1, 2, 5, 6, 22, 23] a3g
def a1k : AC :=
 (.seq (.seq (.region 0 [
 ⟨0, some 11, .mv (.t 5), none, []⟩,
 ⟨1, some 12, .faddr 0 (.t 2), none, []⟩,
 ⟨2, some 13, .faddr 7 (.t 12), none, []⟩,
 ⟨3, some 14, .load none (.t 13), none, []⟩,
 ⟨4, some 15, .len 1 (.t 14), none, []⟩,
 ⟨5, some 16, .bin .lss (.t 11) (.t 15), none, []⟩] false [1, 2, 5, 16])
 (.cond (.t 16)
 (.skip)
 (.exit 0)))
 (.seq (.block 1 (.seq (.region 0 [
 ⟨0, some 6, .mv (.k (.sc (.int .i64 0))), none, []⟩] false [1, 2, 5, 6])
 (.seq (.seq (.region 0 [
 ⟨0, some 19, .faddr 0 (.t 2), none, []⟩,
 ⟨1, some 20, .faddr 0 (.t 19), none, []⟩,
 ⟨2, some 21, .load none (.t 20), none, []⟩,
 ⟨3, some 22, .len 1 (.t 21), none, []⟩,
 ⟨4, some 23, .mv (.k (.sc (.int .i64 0))), none, []⟩] false [1, 2, 5, 6, 22, 23])
 (.block 2 (a6e)))
 (.seq (.region 0 [
 ⟨0, some 35, .mv (.t 6), none, []⟩,
 ⟨1, some 36, .faddr 0 (.t 2), none, []⟩,
 ⟨2, some 37, .faddr 7 (.t 36), none, []⟩,
 ⟨3, some 38, .load none (.t 37), none, []⟩,
 ⟨4, some 39, .mv (.t 5), none, []⟩,
 ⟨5, some 40, .iaddr 3 (.t 38) (.t 39), none, []⟩,
 ⟨6, some 41, .faddr 2 (.t 40), none, []⟩,
 ⟨7, some 42, .load none (.t 41), none, []⟩,
 ⟨8, some 43, .bin .lss (.t 35) (.t 42), none, []⟩] false [1, 2, 5, 43])
 (.cond (.t 43)
 (.seq (.region 0 [
 ⟨0, some 4, .mv (.k (.sc (.bool false))), none, []⟩] false [4])
 (.ret))
 (.skip))))))
 (.region 0 [
 ⟨0, some 17, .mv (.t 5), none, []⟩,
 ⟨1, some 18, .bin .add (.t 17) (.k (.sc (.int .i64 1))), none, []⟩,
 ⟨2, some 5, .mv (.t 18), none, []⟩] false [1, 2, 5])))
def a9c : AC := .loop [1, 2, 5] a1k
def a2j : Fn := ⟨2, 44, [(4, none)],
 (.seq (.region 1 [
 ⟨0, some 2, .box 0 (.t 0), none, []⟩,
 ⟨1, some 4, .mv (.k (.sc (.bool false))), none, []⟩] false [1, 2])
 (.seq (.seq (.region 0 [
 ⟨0, some 8, .faddr 0 (.t 2), none, []⟩,
 ⟨1, some 9, .load (some 10) (.t 8), none, []⟩,
 ⟨2, some 10, .call true (.f 112) [.t 9], none, []⟩,
 ⟨3, some 5, .mv (.t 10), none, []⟩] false [1, 2, 5])
 (.block 0 (a9c)))
 (.seq (.region 0 [
 ⟨0, some 4, .mv (.k (.sc (.bool true))), none, []⟩] false [4])
 (.ret)))), false⟩
def a5Q : Fn := ⟨3, 15, [(6, none)],
 (.seq (.region 0 [
 ⟨0, some 6, .mv (.k (.sc (.bool false))), none, []⟩] false [0, 1, 2])
 (.seq (.region 0 [
 ⟨0, some 7, .mv (.t 1), none, []⟩,
 ⟨1, some 8, .mv (.t 0), none, []⟩,
 ⟨2, some 9, .bin .leq (.t 7) (.t 8), none, []⟩,
 ⟨3, some 10, .mv (.t 9), none, []⟩,
 ⟨4, some 11, .mv (.t 0), some (10, true), []⟩,
 ⟨5, some 12, .mv (.t 2), some (10, true), []⟩,
 ⟨6, some 13, .bin .leq (.t 11) (.t 12), some (10, true), []⟩,
 ⟨7, some 14, .pick (.t 10) (.t 13) (.k (.sc (.bool false))), none, []⟩,
 ⟨8, some 6, .mv (.t 14), none, []⟩] false [6])
 (.ret))), false⟩
def a5O : Fn := ⟨3, 32, [(6, none)],
 (.seq (.region 1 [
 ⟨0, some 3, .box 0 (.t 0), none, []⟩,
 ⟨1, some 6, .mv (.k (.sc (.bool false))), none, []⟩] false [1, 2, 3])
 (.seq (.region 0 [
 ⟨0, some 7, .faddr 0 (.t 3), none, []⟩,
 ⟨1, some 8, .load none (.t 7), none, []⟩,
 ⟨2, some 9, .bin .leq (.k (.sc (.int .i64 0))) (.t 8), none, []⟩,
 ⟨3, some 10, .mv (.t 9), none, []⟩,
 ⟨4, some 11, .faddr 0 (.t 3), some (10, true), []⟩,
 ⟨5, some 12, .load none (.t 11), some (10, true), []⟩,
 ⟨6, some 13, .faddr 1 (.t 3), some (10, true), []⟩,
 ⟨7, some 14, .load none (.t 13), some (10, true), []⟩,
 ⟨8, some 15, .bin .leq (.t 12) (.t 14), some (10, true), []⟩,
 ⟨9, some 16, .pick (.t 10) (.t 15) (.k (.sc (.bool false))), none, []⟩,
 ⟨10, some 17, .mv (.t 16), none, []⟩,
 ⟨11, some 18, .faddr 1 (.t 3), some (17, true), []⟩,
 ⟨12, some 19, .load none (.t 18), some (17, true), []⟩,
 ⟨13, some 20, .mv (.t 1), some (17, true), []⟩,
 ⟨14, some 21, .bin .leq (.t 19) (.t 20), some (17, true), []⟩,
 ⟨15, some 22, .pick (.t 17) (.t 21) (.k (.sc (.bool false))), none, []⟩,
 ⟨16, some 23, .mv (.t 22), none, []⟩,
 ⟨17, some 24, .faddr 1 (.t 3), some (23, true), []⟩,
 ⟨18, some 25, .load none (.t 24), some (23, true), []⟩,
 ⟨19, some 26, .faddr 0 (.t 3), some (23, true), []⟩,
 ⟨20, some 27, .load none (.t 26), some (23, true), []⟩,
 ⟨21, some 28, .bin .sub (.t 25) (.t 27), some (23, true), []⟩,
 ⟨22, some 29, .mv (.t 2), some (23, true), []⟩,
 ⟨23, some 30, .bin .leq (.t 28) (.t 29), some (23, true), []⟩,
 ⟨24, some 31, .pick (.t 23) (.t 30) (.k (.sc (.bool false))), none, []⟩,
 ⟨25, some 6, .mv (.t 31), none, []⟩] false [6])
 (.ret))), false⟩
def d5e : Fn := ⟨2, 11, [(4, none)],
 (.seq (.region 1 [
 ⟨0, some 2, .box 0 (.t 0), none, []⟩,
 ⟨1, some 4, .mv (.k (.sc (.bool false))), none, []⟩] false [1, 2])
 (.seq (.region 0 [
 ⟨0, some 5, .mv (.t 1), none, []⟩,
 ⟨1, some 6, .faddr 7 (.t 2), none, []⟩,
 ⟨2, some 7, .load none (.t 6), none, []⟩,
 ⟨3, some 8, .len 1 (.t 7), none, []⟩,
 ⟨4, some 9, .bin .sub (.t 8) (.k (.sc (.int .i64 1))), none, []⟩,
 ⟨5, some 10, .call true (.f 29) [.t 5, .k (.sc (.int .i64 0)), .t 9], none, []⟩,
 ⟨6, some 4, .mv (.t 10), none, []⟩] false [4])
 (.ret))), false⟩
def d5c : Fn := ⟨2, 11, [(4, none)],
 (.seq (.region 1 [
 ⟨0, some 2, .box 0 (.t 0), none, []⟩,
 ⟨1, some 4, .mv (.k (.sc (.bool false))), none, []⟩] false [1, 2])
 (.seq (.region 0 [
 ⟨0, some 5, .mv (.t 1), none, []⟩,
 ⟨1, some 6, .faddr 0 (.t 2), none, []⟩,
 ⟨2, some 7, .load none (.t 6), none, []⟩,
 ⟨3, some 8, .len 1 (.t 7), none, []⟩,
 ⟨4, some 9, .bin .sub (.t 8) (.k (.sc (.int .i64 1))), none, []⟩,
 ⟨5, some 10, .call true (.f 29) [.t 5, .k (.sc (.int .i64 0)), .t 9], none, []⟩,
 ⟨6, some 4, .mv (.t 10), none, []⟩] false [4])
 (.ret))), false⟩
def a2q : AC :=
 (.seq (.region 0 [
 ⟨0, some 10, .bin .lss (.t 9) (.t 8), none, []⟩] false [0, 7, 8, 9, 10])
 (.seq (.cond (.t 10)
 (.skip)
 (.exit 0))
 (.seq (.block 1 (.seq (.region 0 [
 ⟨0, some 11, .iaddr 1 (.t 7) (.t 9), none, []⟩,
 ⟨1, some 12, .load none (.t 11), none, []⟩,
 ⟨2, some 6, .mv (.t 12), none, []⟩] false [0, 6, 7, 8, 9])
 (.region 0 [
 ⟨0, some 13, .mv (.t 0), none, []⟩,
 ⟨1, some 14, .mv (.t 6), none, []⟩,
 ⟨2, some 15, .min (.t 13) [.t 14], none, []⟩,
 ⟨3, some 0, .mv (.t 15), none, []⟩] false [0, 7, 8, 9])))
 (.region 0 [
 ⟨0, some 16, .bin .add (.t 9) (.k (.sc (.int .i64 1))), none, []⟩,
 ⟨1, some 9, .mv (.t 16), none, []⟩] false [0, 7, 8, 9]))))
def a6M : AC := .loop [0, 7, 8, 9] a2q
def a4J : Fn := ⟨2, 18, [(4, none)],
 (.seq (.region 0 [
 ⟨0, some 4, .mv (.k (.sc (.int .i64 0))), none, []⟩] false [0, 1])
 (.seq (.seq (.region 0 [
 ⟨0, some 7, .mv (.t 1), none, []⟩,
 ⟨1, some 8, .len 1 (.t 7), none, []⟩,
 ⟨2, some 9, .mv (.k (.sc (.int .i64 0))), none, []⟩] false [0, 7, 8, 9])
 (.block 0 (a6M)))
 (.seq (.region 0 [
 ⟨0, some 17, .mv (.t 0), none, []⟩,
 ⟨1, some 4, .mv (.t 17), none, []⟩] false [4])
 (.ret)))), false⟩
def a3s : AC :=
 (.seq (.seq (.region 0 [
 ⟨0, some 15, .mv (.t 6), none, []⟩,
 ⟨1, some 16, .faddr 0 (.t 2), none, []⟩,
 ⟨2, some 17, .faddr 7 (.t 16), none, []⟩,
 ⟨3, some 18, .load none (.t 17), none, []⟩,
 ⟨4, some 19, .len 1 (.t 18), none, []⟩,
 ⟨5, some 20, .bin .lss (.t 15) (.t 19), none, []⟩] false [1, 2, 5, 6, 20])
 (.cond (.t 20)
 (.skip)
 (.exit 0)))
 (.seq (.block 1 (.seq (.region 0 [
 ⟨0, some 23, .faddr 10 (.t 2), none, []⟩,
 ⟨1, some 24, .load none (.t 23), none, []⟩,
 ⟨2, some 25, .mv (.t 6), none, []⟩,
 ⟨3, some 26, .mv (.t 1), none, []⟩,
 ⟨4, some 27, .build [.int .i64 0, .int .i64 0] [(0, 1, .t 25), (1, 1, .t 26)], none, []⟩,
 ⟨5, some 28, .slook 2 (.t 24) (.t 27), none, []⟩,
 ⟨6, some 29, .un .not (.t 28), none, []⟩] false [1, 2, 5, 6, 29])
 (.cond (.t 29)
 (.region 0 [
 ⟨0, some 30, .mv (.tk 5), none, []⟩,
 ⟨1, some 31, .mv (.t 6), none, []⟩,
 ⟨2, some 32, .mv (.t 1), none, []⟩,
 ⟨3, some 33, .build [.int .i64 0, .int .i64 0] [(0, 1, .t 31), (1, 1, .t 32)], none, []⟩,
 ⟨4, some 34, .bslice 2 1 [.int .i64 0, .int .i64 0] [(0, .t 33)], none, []⟩,
 ⟨5, some 35, .append 2 (.tk 30) (.t 34), none, []⟩,
 ⟨6, some 5, .mv (.tk 35), none, []⟩] false [1, 2, 5, 6])
 (.skip))))
 (.region 0 [
 ⟨0, some 21, .mv (.t 6), none, []⟩,
 ⟨1, some 22, .bin .add (.t 21) (.k (.sc (.int .i64 1))), none, []⟩,
 ⟨2, some 6, .mv (.t 22), none, []⟩] false [1, 2, 5, 6])))
def a6C : AC := .loop [1, 2, 5, 6] a3s
def a0T : AC :=
 (.seq (.region 0 [
 ⟨0, some 45, .bin .lss (.t 44) (.t 43), none, []⟩] false [1, 2, 5, 7, 8, 9, 38, 39, 42, 43, 44, 45])
 (.seq (.cond (.t 45)
 (.skip)
 (.exit 4))
 (.seq (.block 5 (.seq (.region 1 [
 ⟨0, some 46, .mv (.t 44), none, []⟩,
 ⟨1, some 47, .iaddr 2 (.t 42) (.t 44), none, []⟩,
 ⟨2, some 48, .load (some 2) (.t 47), none, []⟩,
 ⟨3, some 11, .alloc 0 [.int .i64 0, .int .i64 0], none, []⟩,
 ⟨4, some 10, .mv (.t 46), none, []⟩,
 ⟨5, none, .store 2 (.t 11) (.t 48), none, []⟩] false [1, 2, 5, 7, 8, 9, 10, 11, 38, 39, 42, 43, 44])
 (.seq (.region 0 [
 ⟨0, some 49, .mv (.t 8), none, []⟩,
 ⟨1, some 50, .mv (.t 10), none, []⟩,
 ⟨2, some 51, .bin .shr (.t 49) (.t 50), none, []⟩,
 ⟨3, some 52, .bin .and (.t 51) (.k (.sc (.int .i64 1))), none, []⟩,
 ⟨4, some 53, .bin .eql (.t 52) (.k (.sc (.int .i64 1))), none, []⟩] false [1, 2, 5, 7, 8, 9, 11, 38, 39, 42, 43, 44, 53])
 (.cond (.t 53)
 (.region 0 [
 ⟨0, some 54, .mv (.tk 9), none, []⟩,
 ⟨1, some 55, .load (some 2) (.t 11), none, []⟩,
 ⟨2, some 56, .bslice 2 1 [.int .i64 0, .int .i64 0] [(0, .t 55)], none, []⟩,
 ⟨3, some 57, .append 2 (.tk 54) (.t 56), none, []⟩,
 ⟨4, some 9, .mv (.tk 57), none, []⟩] false [1, 2, 5, 7, 8, 9, 38, 39, 42, 43, 44])
 (.skip)))))
 (.region 0 [
 ⟨0, some 58, .bin .add (.t 44) (.k (.sc (.int .i64 1))), none, []⟩,
 ⟨1, some 44, .mv (.t 58), none, []⟩] false [1, 2, 5, 7, 8, 9, 38, 39, 42, 43, 44]))))
def a6E : AC := .loop [1, 2, 5, 7, 8, 9, 38, 39, 42, 43, 44] a0T
def a3t : AC :=
 (.seq (.region 0 [
 ⟨0, some 40, .bin .lss (.t 39) (.t 38), none, []⟩] false [1, 2, 5, 7, 38, 39, 40])
 (.seq (.cond (.t 40)
 (.skip)
 (.exit 2))
 (.seq (.block 3 (.seq (.region 0 [
 ⟨0, some 41, .mv (.t 39), none, []⟩,
 ⟨1, some 8, .mv (.t 41), none, []⟩] false [1, 2, 5, 7, 8, 38, 39])
 (.seq (.region 0 [
 ⟨0, some 9, .mv (.k (.sc (.sl .nil 2 []))), none, []⟩] false [1, 2, 5, 7, 8, 9, 38, 39])
 (.seq (.seq (.region 0 [
 ⟨0, some 42, .mv (.t 5), none, []⟩,
 ⟨1, some 43, .len 1 (.t 42), none, []⟩,
 ⟨2, some 44, .mv (.k (.sc (.int .i64 0))), none, []⟩] false [1, 2, 5, 7, 8, 9, 38, 39, 42, 43, 44])
 (.block 4 (a6E)))
 (.seq (.region 0 [
 ⟨0, some 59, .load (some 12) (.t 2), none, []⟩,
 ⟨1, some 60, .mv (.t 1), none, []⟩,
 ⟨2, some 61, .faddr 10 (.t 2), none, []⟩,
 ⟨3, some 62, .load none (.t 61), none, []⟩,
 ⟨4, some 63, .mv (.t 9), none, []⟩,
 ⟨5, some 64, .call true (.f 121) [.t 62, .t 63], none, []⟩,
 ⟨6, some 65, .call true (.f 122) [.t 59, .t 60, .t 64], none, []⟩] true [1, 2, 5, 7, 9, 38, 39, 65])
 (.cond (.t 65)
 (.region 0 [
 ⟨0, some 66, .mv (.tk 7), none, []⟩,
 ⟨1, some 67, .mv (.t 9), none, []⟩,
 ⟨2, some 68, .bslice 1 1 [.sl .nil 2 []] [(0, .t 67)], none, []⟩,
 ⟨3, some 69, .append 1 (.tk 66) (.t 68), none, []⟩,
 ⟨4, some 7, .mv (.tk 69), none, []⟩] false [1, 2, 5, 7, 38, 39])
 (.skip)))))))
 (.region 0 [
 ⟨0, some 70, .bin .add (.t 39) (.k (.sc (.int .i64 1))), none, []⟩,
 ⟨1, some 39, .mv (.t 70), none, []⟩] false [1, 2, 5, 7, 38, 39]))))
def a6D : AC := .loop [1, 2, 5, 7, 38, 39] a3t
def a4f : Fn := ⟨2, 72, [(4, none)],
 (.seq (.region 1 [
 ⟨0, some 2, .box 0 (.t 0), none, []⟩,
 ⟨1, some 4, .mv (.k (.sc (.sl .nil 1 []))), none, []⟩] false [1, 2])
 (.seq (.region 0 [
 ⟨0, some 5, .mv (.k (.sc (.sl .nil 2 []))), none, []⟩] false [1, 2, 5])
 (.seq (.seq (.region 0 [
 ⟨0, some 12, .faddr 0 (.t 2), none, []⟩,
 ⟨1, some 13, .load (some 10) (.t 12), none, []⟩,
 ⟨2, some 14, .call true (.f 112) [.t 13], none, []⟩,
 ⟨3, some 6, .mv (.t 14), none, []⟩] false [1, 2, 5, 6])
 (.block 0 (a6C)))
 (.seq (.region 0 [
 ⟨0, some 7, .mv (.k (.sc (.sl .nil 1 []))), none, []⟩] false [1, 2, 5, 7])
 (.seq (.seq (.region 0 [
 ⟨0, some 36, .mv (.t 5), none, []⟩,
 ⟨1, some 37, .len 1 (.t 36), none, []⟩,
 ⟨2, some 38, .bin .shl (.k (.sc (.int .i64 1))) (.t 37), none, []⟩,
 ⟨3, some 39, .mv (.k (.sc (.int .i64 0))), none, []⟩] false [1, 2, 5, 7, 38, 39])
 (.block 2 (a6D)))
 (.seq (.region 0 [
 ⟨0, some 71, .mv (.t 7), none, []⟩,
 ⟨1, some 4, .mv (.t 71), none, []⟩] false [4])
 (.ret))))))), false⟩
def a5L : Fn := ⟨0, 2, [(0, some (some 1))],
 (.seq (.region 1 [
 ⟨0, some 0, .alloc 0 [.nilf], none, []⟩] false [0])
 (.seq (.region 0 [
 ⟨0, some 1, .build [.nilf] [(0, 1, .f 160)], none, []⟩,
 ⟨1, none, .store 1 (.t 0) (.t 1), none, []⟩] false [0])
 (.ret))), false⟩
def a0X : Fn := ⟨2, 14, [],
 (.seq (.region 0 [
 ⟨0, some 5, .mv (.t 0), none, []⟩,
 ⟨1, some 6, .len 1 (.t 5), none, []⟩,
 ⟨2, some 4, .mv (.t 6), none, []⟩] false [0, 1, 4])
 (.region 0 [
 ⟨0, some 7, .mv (.t 0), none, []⟩,
 ⟨1, some 8, .mv (.t 4), none, []⟩,
 ⟨2, some 9, .mv (.t 4), none, []⟩,
 ⟨3, some 10, .conv .u64 (.t 9), none, []⟩,
 ⟨4, some 11, .call true (.f 161) [.t 10], none, []⟩,
 ⟨5, some 12, .mv (.t 1), none, []⟩,
 ⟨6, some 13, .call false (.f 162) [.t 7, .k (.sc (.int .i64 0)), .t 8, .t 11, .t 12], none, []⟩] false [])), false⟩
def a5u : Fn := ⟨2, 17, [(4, none)],
 (.seq (.region 2 [
 ⟨0, some 2, .box 0 (.t 0), none, []⟩,
 ⟨1, some 3, .box 1 (.t 1), none, []⟩,
 ⟨2, some 4, .mv (.k (.sc (.int .i64 0))), none, []⟩] false [2, 3])
 (.seq (.region 0 [
 ⟨0, some 5, .faddr 0 (.t 2), none, []⟩,
 ⟨1, some 6, .load none (.t 5), none, []⟩,
 ⟨2, some 7, .faddr 0 (.t 3), none, []⟩,
 ⟨3, some 8, .load none (.t 7), none, []⟩,
 ⟨4, some 9, .call true (.f 163) [.t 6, .t 8], none, []⟩,
 ⟨5, some 10, .faddr 1 (.t 2), none, []⟩,
 ⟨6, some 11, .load none (.t 10), none, []⟩,
 ⟨7, some 12, .faddr 1 (.t 3), none, []⟩,
 ⟨8, some 13, .load none (.t 12), none, []⟩,
 ⟨9, some 14, .call true (.f 163) [.t 11, .t 13], none, []⟩,
 ⟨10, some 15, .bslice 1 2 [.int .i64 0] [(0, .t 9), (1, .t 14)], none, []⟩,
 ⟨11, some 16, .call true (.f 164) [.t 15], none, []⟩,
 ⟨12, some 4, .mv (.t 16), none, []⟩] true [4])
 (.ret))), false⟩
def d2y : Fn := ⟨2, 18, [(4, none)],
 (.seq (.region 0 [
 ⟨0, some 4, .mv (.k (.sc (.bool false))), none, []⟩] false [0, 1])
 (.seq (.region 0 [
 ⟨0, some 5, .mv (.t 1), none, []⟩,
 ⟨1, some 6, .bin .geq (.t 5) (.k (.sc (.int .i64 0))), none, []⟩,
 ⟨2, some 7, .mv (.t 6), none, []⟩,
 ⟨3, some 8, .mv (.t 1), some (7, true), []⟩,
 ⟨4, some 9, .bin .lss (.t 8) (.k (.sc (.int .i64 62))), some (7, true), []⟩,
 ⟨5, some 10, .pick (.t 7) (.t 9) (.k (.sc (.bool false))), none, []⟩,
 ⟨6, some 11, .mv (.t 10), none, []⟩,
 ⟨7, some 12, .mv (.t 0), some (11, true), []⟩,
 ⟨8, some 13, .mv (.t 1), some (11, true), []⟩,
 ⟨9, some 14, .bin .shr (.t 12) (.t 13), some (11, true), []⟩,
 ⟨10, some 15, .bin .and (.t 14) (.k (.sc (.int .i64 1))), some (11, true), []⟩,
 ⟨11, some 16, .bin .eql (.t 15) (.k (.sc (.int .i64 1))), some (11, true), []⟩,
 ⟨12, some 17, .pick (.t 11) (.t 16) (.k (.sc (.bool false))), none, []⟩,
 ⟨13, some 4, .mv (.t 17), none, []⟩] false [4])
 (.ret))), false⟩
def d2t : AC :=
 (.seq (.seq (.region 0 [
 ⟨0, some 6, .mv (.t 5), none, []⟩,
 ⟨1, some 7, .mv (.t 0), none, []⟩,
 ⟨2, some 8, .len 1 (.t 7), none, []⟩,
 ⟨3, some 9, .bin .lss (.t 6) (.t 8), none, []⟩,
 ⟨4, some 10, .mv (.t 9), none, []⟩,
 ⟨5, some 11, .mv (.t 5), some (10, true), []⟩,
 ⟨6, some 12, .mv (.t 1), some (10, true), []⟩,
 ⟨7, some 13, .len 1 (.t 12), some (10, true), []⟩,
 ⟨8, some 14, .bin .lss (.t 11) (.t 13), some (10, true), []⟩,
 ⟨9, some 15, .pick (.t 10) (.t 14) (.k (.sc (.bool false))), none, []⟩] false [0, 1, 5, 15])
 (.cond (.t 15)
 (.skip)
 (.exit 0)))
 (.seq (.block 1 (.seq (.region 0 [
 ⟨0, some 18, .mv (.t 0), none, []⟩,
 ⟨1, some 19, .mv (.t 5), none, []⟩,
 ⟨2, some 20, .iaddr 1 (.t 18) (.t 19), none, []⟩,
 ⟨3, some 21, .load none (.t 20), none, []⟩,
 ⟨4, some 22, .mv (.t 1), none, []⟩,
 ⟨5, some 23, .mv (.t 5), none, []⟩,
 ⟨6, some 24, .iaddr 1 (.t 22) (.t 23), none, []⟩,
 ⟨7, some 25, .load none (.t 24), none, []⟩,
 ⟨8, some 26, .bin .neq (.t 21) (.t 25), none, []⟩] true [0, 1, 5, 26])
 (.cond (.t 26)
 (.seq (.region 0 [
 ⟨0, some 27, .mv (.t 0), none, []⟩,
 ⟨1, some 28, .mv (.t 5), none, []⟩,
 ⟨2, some 29, .iaddr 1 (.t 27) (.t 28), none, []⟩,
 ⟨3, some 30, .load none (.t 29), none, []⟩,
 ⟨4, some 31, .mv (.t 1), none, []⟩,
 ⟨5, some 32, .mv (.t 5), none, []⟩,
 ⟨6, some 33, .iaddr 1 (.t 31) (.t 32), none, []⟩,
 ⟨7, some 34, .load none (.t 33), none, []⟩,
 ⟨8, some 35, .bin .lss (.t 30) (.t 34), none, []⟩,
 ⟨9, some 4, .mv (.t 35), none, []⟩] true [4])
 (.ret))
 (.skip))))
 (.region 0 [
 ⟨0, some 16, .mv (.t 5), none, []⟩,
 ⟨1, some 17, .bin .add (.t 16) (.k (.sc (.int .i64 1))), none, []⟩,
 ⟨2, some 5, .mv (.t 17), none, []⟩] false [0, 1, 5])))
def d2M : AC := .loop [0, 1, 5] d2t
def d2B : Fn := ⟨2, 41, [(4, none)],
 (.seq (.region 0 [
 ⟨0, some 4, .mv (.k (.sc (.bool false))), none, []⟩] false [0, 1])
 (.seq (.seq (.region 0 [
 ⟨0, some 5, .mv (.k (.sc (.int .i64 0))), none, []⟩] false [0, 1, 5])
 (.block 0 (d2M)))
 (.seq (.region 0 [
 ⟨0, some 36, .mv (.t 0), none, []⟩,
 ⟨1, some 37, .len 1 (.t 36), none, []⟩,
 ⟨2, some 38, .mv (.t 1), none, []⟩,
 ⟨3, some 39, .len 1 (.t 38), none, []⟩,
 ⟨4, some 40, .bin .lss (.t 37) (.t 39), none, []⟩,
 ⟨5, some 4, .mv (.t 40), none, []⟩] false [4])
 (.ret)))), false⟩
def a1r : AC :=
 (.seq (.region 0 [
 ⟨0, some 18, .bin .lss (.t 17) (.t 16), none, []⟩] false [2, 3, 4, 5, 6, 15, 16, 17, 18])
 (.seq (.cond (.t 18)
 (.skip)
 (.exit 0))
 (.seq (.block 1 (.seq (.region 1 [
 ⟨0, some 19, .mv (.t 17), none, []⟩,
 ⟨1, some 20, .iaddr 4 (.t 15) (.t 17), none, []⟩,
 ⟨2, some 21, .load (some 4) (.t 20), none, []⟩,
 ⟨3, some 12, .alloc 0 [.int .i64 0, .int .i64 0, .int .i64 0, .int .i64 0], none, []⟩,
 ⟨4, some 11, .mv (.t 19), none, []⟩,
 ⟨5, none, .store 4 (.t 12) (.t 21), none, []⟩] false [2, 3, 4, 5, 6, 11, 12, 15, 16, 17])
 (.seq (.region 0 [
 ⟨0, some 22, .faddr 0 (.t 12), none, []⟩,
 ⟨1, some 23, .load none (.t 22), none, []⟩,
 ⟨2, some 24, .mv (.t 2), none, []⟩,
 ⟨3, some 25, .bin .eql (.t 23) (.t 24), none, []⟩,
 ⟨4, some 26, .mv (.t 25), none, []⟩,
 ⟨5, some 27, .mv (.t 4), some (26, true), []⟩,
 ⟨6, some 28, .mv (.t 11), some (26, true), []⟩,
 ⟨7, some 29, .call true (.f 76) [.t 27, .t 28], some (26, true), []⟩,
 ⟨8, some 30, .un .not (.t 29), some (26, true), []⟩,
 ⟨9, some 31, .pick (.t 26) (.t 30) (.k (.sc (.bool false))), none, []⟩,
 ⟨10, some 32, .mv (.t 31), none, []⟩,
 ⟨11, some 33, .faddr 2 (.t 12), some (32, true), []⟩,
 ⟨12, some 34, .load none (.t 33), some (32, true), []⟩,
 ⟨13, some 35, .load (some 12) (.t 5), some (32, true), []⟩,
 ⟨14, some 36, .load (some 3) (.t 6), some (32, true), []⟩,
 ⟨15, some 37, .mv (.t 2), some (32, true), []⟩,
 ⟨16, some 38, .mv (.t 3), some (32, true), []⟩,
 ⟨17, some 39, .faddr 1 (.t 12), some (32, true), []⟩,
 ⟨18, some 40, .load none (.t 39), some (32, true), []⟩,
 ⟨19, some 41, .faddr 10 (.t 5), some (32, true), []⟩,
 ⟨20, some 42, .load none (.t 41), some (32, true), []⟩,
 ⟨21, some 43, .call true (.f 188) [.t 35, .t 36, .t 37, .t 38, .t 40, .t 42], some (32, true), []⟩,
 ⟨22, some 44, .bin .sub (.t 34) (.t 43), some (32, true), []⟩,
 ⟨23, some 45, .faddr 3 (.t 12), some (32, true), []⟩,
 ⟨24, some 46, .load none (.t 45), some (32, true), []⟩,
 ⟨25, some 47, .un .neg (.t 46), some (32, true), []⟩,
 ⟨26, some 48, .faddr 3 (.t 12), some (32, true), []⟩,
 ⟨27, some 49, .load none (.t 48), some (32, true), []⟩,
 ⟨28, some 50, .call true (.f 150) [.t 44, .t 47, .t 49], some (32, true), []⟩,
 ⟨29, some 51, .un .not (.t 50), some (32, true), []⟩,
 ⟨30, some 52, .pick (.t 32) (.t 51) (.k (.sc (.bool false))), none, []⟩] true [2, 3, 4, 5, 6, 15, 16, 17, 52])
 (.cond (.t 52)
 (.seq (.region 0 [
 ⟨0, some 10, .mv (.k (.sc (.bool false))), none, []⟩] false [10])
 (.ret))
 (.skip)))))
 (.region 0 [
 ⟨0, some 53, .bin .add (.t 17) (.k (.sc (.int .i64 1))), none, []⟩,
 ⟨1, some 17, .mv (.t 53), none, []⟩] false [2, 3, 4, 5, 6, 15, 16, 17]))))
def a6F : AC := .loop [2, 3, 4, 5, 6, 15, 16, 17] a1r
def a3m : Fn := ⟨5, 54, [(10, none)],
 (.seq (.region 2 [
 ⟨0, some 5, .box 0 (.t 0), none, []⟩,
 ⟨1, some 6, .box 1 (.t 1), none, []⟩,
 ⟨2, some 10, .mv (.k (.sc (.bool false))), none, []⟩] false [2, 3, 4, 5, 6])
 (.seq (.seq (.region 0 [
 ⟨0, some 13, .faddr 0 (.t 5), none, []⟩,
 ⟨1, some 14, .faddr 9 (.t 13), none, []⟩,
 ⟨2, some 15, .load none (.t 14), none, []⟩,
 ⟨3, some 16, .len 1 (.t 15), none, []⟩,
 ⟨4, some 17, .mv (.k (.sc (.int .i64 0))), none, []⟩] false [2, 3, 4, 5, 6, 15, 16, 17])
 (.block 0 (a6F)))
 (.seq (.region 0 [
 ⟨0, some 10, .mv (.k (.sc (.bool true))), none, []⟩] false [10])
 (.ret)))), false⟩
def a3W : Fn := ⟨1, 4, [(2, none)],
 (.seq (.region 1 [
 ⟨0, some 1, .box 0 (.t 0), none, []⟩,
 ⟨1, some 2, .mv (.k (.sc .nilf)), none, []⟩] false [1])
 (.frz 1 (.seq (.region 0 [
 ⟨0, some 3, .mkf 190 [] [] [.t 1], none, []⟩,
 ⟨1, some 2, .mv (.t 3), none, []⟩] false [2])
 (.ret)))), false⟩
def d4A : AC :=
 (.seq (.seq (.region 0 [
 ⟨0, some 31, .mv (.t 12), none, []⟩,
 ⟨1, some 32, .faddr 9 (.t 4), none, []⟩,
 ⟨2, some 33, .load none (.t 32), none, []⟩,
 ⟨3, some 34, .len 1 (.t 33), none, []⟩,
 ⟨4, some 35, .bin .lss (.t 31) (.t 34), none, []⟩] false [2, 3, 4, 5, 9, 10, 11, 12, 35])
 (.cond (.t 35)
 (.skip)
 (.exit 2)))
 (.seq (.block 3 (.seq (.region 1 [
 ⟨0, some 38, .faddr 9 (.t 4), none, []⟩,
 ⟨1, some 39, .load none (.t 38), none, []⟩,
 ⟨2, some 40, .mv (.t 12), none, []⟩,
 ⟨3, some 41, .iaddr 4 (.t 39) (.t 40), none, []⟩,
 ⟨4, some 42, .load (some 4) (.t 41), none, []⟩,
 ⟨5, some 13, .alloc 0 [.int .i64 0, .int .i64 0, .int .i64 0, .int .i64 0], none, []⟩,
 ⟨6, none, .store 4 (.t 13) (.t 42), none, []⟩] false [2, 3, 4, 5, 9, 10, 11, 12, 13])
 (.region 0 [
 ⟨0, some 43, .mv (.t 11), none, []⟩,
 ⟨1, some 44, .mv (.t 43), none, []⟩,
 ⟨2, some 45, .mv (.t 3), some (44, true), []⟩,
 ⟨3, some 46, .mv (.t 12), some (44, true), []⟩,
 ⟨4, some 47, .call true (.f 65) [.t 45, .t 46], some (44, true), []⟩,
 ⟨5, some 48, .mv (.t 47), some (44, true), []⟩,
 ⟨6, some 49, .faddr 0 (.t 13), some (48, false), []⟩,
 ⟨7, some 50, .load none (.t 49), some (48, false), []⟩,
 ⟨8, some 51, .mv (.t 2), some (48, false), []⟩,
 ⟨9, some 52, .bin .neq (.t 50) (.t 51), some (48, false), []⟩,
 ⟨10, some 53, .pick (.t 48) (.k (.sc (.bool true))) (.t 52), some (44, true), []⟩,
 ⟨11, some 54, .mv (.t 53), some (44, true), []⟩,
 ⟨12, some 55, .faddr 2 (.t 13), some (54, false), []⟩,
 ⟨13, some 56, .load none (.t 55), some (54, false), []⟩,
 ⟨14, some 57, .load (some 10) (.t 4), some (54, false), []⟩,
 ⟨15, some 58, .load (some 3) (.t 5), some (54, false), []⟩,
 ⟨16, some 59, .mv (.t 2), some (54, false), []⟩,
 ⟨17, some 60, .mv (.t 10), some (54, false), []⟩,
 ⟨18, some 61, .faddr 1 (.t 13), some (54, false), []⟩,
 ⟨19, some 62, .load none (.t 61), some (54, false), []⟩,
 ⟨20, some 63, .faddr 8 (.t 4), some (54, false), []⟩,
 ⟨21, some 64, .load none (.t 63), some (54, false), []⟩,
 ⟨22, some 65, .call true (.f 174) [.t 57, .t 58, .t 59, .t 60, .t 62, .t 64], some (54, false), []⟩,
 ⟨23, some 66, .bin .sub (.t 56) (.t 65), some (54, false), []⟩,
 ⟨24, some 67, .faddr 3 (.t 13), some (54, false), []⟩,
 ⟨25, some 68, .load none (.t 67), some (54, false), []⟩,
 ⟨26, some 69, .un .neg (.t 68), some (54, false), []⟩,
 ⟨27, some 70, .faddr 3 (.t 13), some (54, false), []⟩,
 ⟨28, some 71, .load none (.t 70), some (54, false), []⟩,
 ⟨29, some 72, .call true (.f 29) [.t 66, .t 69, .t 71], some (54, false), []⟩,
 ⟨30, some 73, .pick (.t 54) (.k (.sc (.bool true))) (.t 72), some (44, true), []⟩,
 ⟨31, some 74, .pick (.t 44) (.t 73) (.k (.sc (.bool false))), none, []⟩,
 ⟨32, some 11, .mv (.t 74), none, []⟩] true [2, 3, 4, 5, 9, 10, 11, 12])))
 (.region 0 [
 ⟨0, some 36, .mv (.t 12), none, []⟩,
 ⟨1, some 37, .bin .add (.t 36) (.k (.sc (.int .i64 1))), none, []⟩,
 ⟨2, some 12, .mv (.t 37), none, []⟩] false [2, 3, 4, 5, 9, 10, 11, 12])))
def d5l : AC := .loop [2, 3, 4, 5, 9, 10, 11, 12] d4A
def d4J : AC :=
 (.seq (.seq (.region 0 [
 ⟨0, some 21, .mv (.t 10), none, []⟩,
 ⟨1, some 22, .faddr 0 (.t 4), none, []⟩,
 ⟨2, some 23, .load none (.t 22), none, []⟩,
 ⟨3, some 24, .mv (.t 2), none, []⟩,
 ⟨4, some 25, .iaddr 2 (.t 23) (.t 24), none, []⟩,
 ⟨5, some 26, .faddr 1 (.t 25), none, []⟩,
 ⟨6, some 27, .load none (.t 26), none, []⟩,
 ⟨7, some 28, .bin .leq (.t 21) (.t 27), none, []⟩] false [2, 3, 4, 5, 9, 10, 28])
 (.cond (.t 28)
 (.skip)
 (.exit 0)))
 (.seq (.block 1 (.seq (.region 0 [
 ⟨0, some 11, .mv (.k (.sc (.bool true))), none, []⟩] false [2, 3, 4, 5, 9, 10, 11])
 (.seq (.seq (.region 0 [
 ⟨0, some 12, .mv (.k (.sc (.int .i64 0))), none, []⟩] false [2, 3, 4, 5, 9, 10, 11, 12])
 (.block 2 (d5l)))
 (.seq (.region 0 [
 ⟨0, some 75, .mv (.t 11), none, []⟩] false [2, 3, 4, 5, 9, 10, 75])
 (.cond (.t 75)
 (.region 0 [
 ⟨0, some 76, .mv (.tk 9), none, []⟩,
 ⟨1, some 77, .mv (.t 10), none, []⟩,
 ⟨2, some 78, .bslice 1 1 [.int .i64 0] [(0, .t 77)], none, []⟩,
 ⟨3, some 79, .append 1 (.tk 76) (.t 78), none, []⟩,
 ⟨4, some 9, .mv (.tk 79), none, []⟩] false [2, 3, 4, 5, 9, 10])
 (.skip))))))
 (.region 0 [
 ⟨0, some 29, .mv (.t 10), none, []⟩,
 ⟨1, some 30, .bin .add (.t 29) (.k (.sc (.int .i64 1))), none, []⟩,
 ⟨2, some 10, .mv (.t 30), none, []⟩] false [2, 3, 4, 5, 9, 10])))
def d5k : AC := .loop [2, 3, 4, 5, 9, 10] d4J
def d5b : Fn := ⟨4, 81, [(8, none)],
 (.seq (.region 2 [
 ⟨0, some 4, .box 0 (.t 0), none, []⟩,
 ⟨1, some 5, .box 1 (.t 1), none, []⟩,
 ⟨2, some 8, .mv (.k (.sc (.sl .nil 1 []))), none, []⟩] false [2, 3, 4, 5])
 (.seq (.region 0 [
 ⟨0, some 14, .bslice 1 0 [.int .i64 0] [], none, []⟩,
 ⟨1, some 9, .mv (.t 14), none, []⟩] false [2, 3, 4, 5, 9])
 (.seq (.seq (.region 0 [
 ⟨0, some 15, .faddr 0 (.t 4), none, []⟩,
 ⟨1, some 16, .load none (.t 15), none, []⟩,
 ⟨2, some 17, .mv (.t 2), none, []⟩,
 ⟨3, some 18, .iaddr 2 (.t 16) (.t 17), none, []⟩,
 ⟨4, some 19, .faddr 0 (.t 18), none, []⟩,
 ⟨5, some 20, .load none (.t 19), none, []⟩,
 ⟨6, some 10, .mv (.t 20), none, []⟩] false [2, 3, 4, 5, 9, 10])
 (.block 0 (d5k)))
 (.seq (.region 0 [
 ⟨0, some 80, .mv (.t 9), none, []⟩,
 ⟨1, some 8, .mv (.t 80), none, []⟩] false [8])
 (.ret))))), false⟩
def a0J : AC :=
 (.seq (.seq (.region 0 [
 ⟨0, some 12, .mv (.t 9), none, []⟩,
 ⟨1, some 13, .mv (.t 2), none, []⟩,
 ⟨2, some 14, .bin .leq (.t 12) (.t 13), none, []⟩] false [1, 2, 3, 4, 9, 14])
 (.cond (.t 14)
 (.skip)
 (.exit 0)))
 (.seq (.block 1 (.seq (.region 0 [
 ⟨0, some 17, .mv (.t 9), none, []⟩,
 ⟨1, some 18, .bin .lss (.t 17) (.k (.sc (.int .i64 0))), none, []⟩,
 ⟨2, some 19, .mv (.t 18), none, []⟩,
 ⟨3, some 20, .faddr 0 (.t 4), some (19, false), []⟩,
 ⟨4, some 21, .faddr 7 (.t 20), some (19, false), []⟩,
 ⟨5, some 22, .load none (.t 21), some (19, false), []⟩,
 ⟨6, some 23, .mv (.t 9), some (19, false), []⟩,
 ⟨7, some 24, .iaddr 3 (.t 22) (.t 23), some (19, false), []⟩,
 ⟨8, some 25, .faddr 1 (.t 24), some (19, false), []⟩,
 ⟨9, some 26, .load none (.t 25), some (19, false), []⟩,
 ⟨10, some 27, .bin .eql (.t 26) (.k (.sc (.int .i64 0))), some (19, false), []⟩,
 ⟨11, some 28, .pick (.t 19) (.k (.sc (.bool true))) (.t 27), none, []⟩,
 ⟨12, some 29, .mv (.t 28), none, []⟩,
 ⟨13, some 30, .mv (.t 3), some (29, false), []⟩,
 ⟨14, some 31, .mv (.t 9), some (29, false), []⟩,
 ⟨15, some 32, .mv (.t 1), some (29, false), []⟩,
 ⟨16, some 33, .build [.int .i64 0, .int .i64 0] [(0, 1, .t 31), (1, 1, .t 32)], some (29, false), []⟩,
 ⟨17, some 34, .slook 2 (.t 30) (.t 33), some (29, false), []⟩,
 ⟨18, some 35, .pick (.t 29) (.k (.sc (.bool true))) (.t 34), none, []⟩] false [1, 2, 3, 4, 9, 35])
 (.cond (.t 35)
 (.seq (.region 0 [
 ⟨0, some 8, .mv (.k (.sc (.bool false))), none, []⟩] false [8])
 (.ret))
 (.skip))))
 (.region 0 [
 ⟨0, some 15, .mv (.t 9), none, []⟩,
 ⟨1, some 16, .bin .add (.t 15) (.k (.sc (.int .i64 1))), none, []⟩,
 ⟨2, some 9, .mv (.t 16), none, []⟩] false [1, 2, 3, 4, 9])))
def a0K : AC := .loop [1, 2, 3, 4, 9] a0J
def a0N : Fn := ⟨4, 36, [(8, none)],
 (.seq (.region 1 [
 ⟨0, some 4, .box 0 (.t 0), none, []⟩,
 ⟨1, some 8, .mv (.k (.sc (.bool false))), none, []⟩] false [1, 2, 3, 4])
 (.seq (.seq (.region 0 [
 ⟨0, some 10, .mv (.t 2), none, []⟩,
 ⟨1, some 11, .bin .sub (.t 10) (.k (.sc (.int .i64 2))), none, []⟩,
 ⟨2, some 9, .mv (.t 11), none, []⟩] false [1, 2, 3, 4, 9])
 (.block 0 (a0K)))
 (.seq (.region 0 [
 ⟨0, some 8, .mv (.k (.sc (.bool true))), none, []⟩] false [8])
 (.ret)))), false⟩
def a0Z : AC :=
 (.seq (.region 0 [
 ⟨0, some 22, .bin .lss (.t 21) (.t 20), none, []⟩] false [2, 3, 5, 6, 7, 13, 14, 20, 21, 22])
 (.seq (.cond (.t 22)
 (.skip)
 (.exit 0))
 (.seq (.block 1 (.seq (.region 0 [
 ⟨0, some 23, .mv (.t 21), none, []⟩,
 ⟨1, some 15, .mv (.t 23), none, []⟩] false [2, 3, 5, 6, 7, 13, 15, 20, 21])
 (.seq (.region 0 [
 ⟨0, some 16, .mv (.k (.sc (.int .i64 1))), none, []⟩] false [2, 3, 5, 6, 7, 13, 15, 16, 20, 21])
 (.seq (.seq (.region 0 [
 ⟨0, some 24, .mv (.t 5), none, []⟩,
 ⟨1, some 25, .mv (.t 15), none, []⟩,
 ⟨2, some 26, .mv (.t 2), none, []⟩,
 ⟨3, some 27, .build [.int .i64 0, .int .i64 0] [(0, 1, .t 25), (1, 1, .t 26)], none, []⟩,
 ⟨4, some 28, .slook 2 (.t 24) (.t 27), none, []⟩] false [2, 3, 5, 6, 7, 13, 15, 16, 20, 21, 28])
 (.cond (.t 28)
 (.region 0 [
 ⟨0, some 16, .mv (.k (.sc (.int .i64 0))), none, []⟩] false [2, 3, 5, 6, 7, 13, 15, 16, 20, 21])
 (.skip)))
 (.seq (.region 0 [
 ⟨0, some 29, .mv (.t 16), none, []⟩,
 ⟨1, some 30, .iarr 2 1 (.g 4) (.t 29), none, []⟩,
 ⟨2, some 31, .load none (.t 30), none, []⟩,
 ⟨3, some 32, .load (some 3) (.t 7), none, []⟩,
 ⟨4, some 33, .mv (.t 13), none, []⟩,
 ⟨5, some 34, .faddr 0 (.t 6), none, []⟩,
 ⟨6, some 35, .faddr 7 (.t 34), none, []⟩,
 ⟨7, some 36, .load none (.t 35), none, []⟩,
 ⟨8, some 37, .mv (.t 15), none, []⟩,
 ⟨9, some 38, .iaddr 3 (.t 36) (.t 37), none, []⟩,
 ⟨10, some 39, .load (some 3) (.t 38), none, []⟩,
 ⟨11, some 40, .call true (.t 31) [.t 32, .t 33, .t 39], none, []⟩,
 ⟨12, some 14, .mv (.t 40), none, []⟩] true [2, 3, 5, 6, 7, 14, 20, 21])
 (.region 0 [
 ⟨0, some 41, .mv (.t 3), none, []⟩,
 ⟨1, some 42, .mv (.t 14), none, []⟩,
 ⟨2, some 43, .iarr 3 1 (.t 7) (.k (.sc (.int .i64 2))), none, []⟩,
 ⟨3, some 44, .load none (.t 43), none, []⟩,
 ⟨4, some 45, .bin .add (.t 42) (.t 44), none, []⟩,
 ⟨5, some 46, .bslice 1 1 [.int .i64 0] [(0, .t 45)], none, []⟩,
 ⟨6, some 47, .call true (.f 169) [.t 41, .t 46], none, []⟩,
 ⟨7, some 13, .mv (.t 47), none, []⟩] false [2, 3, 5, 6, 7, 13, 14, 20, 21]))))))
 (.region 0 [
 ⟨0, some 48, .bin .add (.t 21) (.k (.sc (.int .i64 1))), none, []⟩,
 ⟨1, some 21, .mv (.t 48), none, []⟩] false [2, 3, 5, 6, 7, 13, 14, 20, 21]))))
def a6J : AC := .loop [2, 3, 5, 6, 7, 13, 14, 20, 21] a0Z
def a4G : Fn := ⟨6, 50, [(12, none)],
 (.seq (.region 2 [
 ⟨0, some 6, .box 0 (.t 0), none, []⟩,
 ⟨1, some 7, .box 1 (.t 1), none, []⟩,
 ⟨2, some 12, .mv (.k (.sc (.int .i64 0))), none, []⟩] false [2, 3, 4, 5, 6, 7])
 (.seq (.region 0 [
 ⟨0, some 17, .mv (.t 3), none, []⟩,
 ⟨1, some 18, .mv (.t 3), none, []⟩,
 ⟨2, some 13, .mv (.t 17), none, []⟩,
 ⟨3, some 14, .mv (.t 18), none, []⟩] false [2, 3, 4, 5, 6, 7, 13, 14])
 (.seq (.seq (.region 0 [
 ⟨0, some 19, .mv (.t 4), none, []⟩,
 ⟨1, some 20, .bin .add (.t 19) (.k (.sc (.int .i64 1))), none, []⟩,
 ⟨2, some 21, .mv (.k (.sc (.int .i64 0))), none, []⟩] false [2, 3, 5, 6, 7, 13, 14, 20, 21])
 (.block 0 (a6J)))
 (.seq (.region 0 [
 ⟨0, some 49, .mv (.t 14), none, []⟩,
 ⟨1, some 12, .mv (.t 49), none, []⟩] false [12])
 (.ret))))), false⟩
def a2f : AC :=
 (.seq (.seq (.region 0 [
 ⟨0, some 12, .mv (.t 4), none, []⟩,
 ⟨1, some 13, .mv (.t 0), none, []⟩,
 ⟨2, some 14, .len 1 (.t 13), none, []⟩,
 ⟨3, some 15, .bin .lss (.t 12) (.t 14), none, []⟩] false [0, 3, 4, 15])
 (.cond (.t 15)
 (.skip)
 (.exit 0)))
 (.seq (.block 1 (.region 0 [
 ⟨0, some 18, .mv (.t 3), none, []⟩,
 ⟨1, some 19, .mv (.t 0), none, []⟩,
 ⟨2, some 20, .mv (.t 4), none, []⟩,
 ⟨3, some 21, .iaddr 1 (.t 19) (.t 20), none, []⟩,
 ⟨4, some 22, .load none (.t 21), none, []⟩,
 ⟨5, some 23, .max (.t 18) [.t 22], none, []⟩,
 ⟨6, some 3, .mv (.t 23), none, []⟩] false [0, 3, 4]))
 (.region 0 [
 ⟨0, some 16, .mv (.t 4), none, []⟩,
 ⟨1, some 17, .bin .add (.t 16) (.k (.sc (.int .i64 1))), none, []⟩,
 ⟨2, some 4, .mv (.t 17), none, []⟩] false [0, 3, 4])))
def a6d : AC := .loop [0, 3, 4] a2f
def a3S : Fn := ⟨1, 25, [(2, none)],
 (.seq (.region 0 [
 ⟨0, some 2, .mv (.k (.sc (.int .i64 0))), none, []⟩] false [0])
 (.seq (.seq (.region 0 [
 ⟨0, some 5, .mv (.t 0), none, []⟩,
 ⟨1, some 6, .len 1 (.t 5), none, []⟩,
 ⟨2, some 7, .bin .lss (.t 6) (.k (.sc (.int .i64 1))), none, []⟩] false [0, 7])
 (.cond (.t 7)
 (.stuck)
 (.skip)))
 (.seq (.region 0 [
 ⟨0, some 9, .mv (.t 0), none, []⟩,
 ⟨1, some 10, .iaddr 1 (.t 9) (.k (.sc (.int .i64 0))), none, []⟩,
 ⟨2, some 11, .load none (.t 10), none, []⟩,
 ⟨3, some 3, .mv (.t 11), none, []⟩] false [0, 3])
 (.seq (.seq (.region 0 [
 ⟨0, some 4, .mv (.k (.sc (.int .i64 1))), none, []⟩] false [0, 3, 4])
 (.block 0 (a6d)))
 (.seq (.region 0 [
 ⟨0, some 24, .mv (.t 3), none, []⟩,
 ⟨1, some 2, .mv (.t 24), none, []⟩] false [2])
 (.ret)))))), false⟩
def a1m : Fn := ⟨2, 9, [(4, none)],
 (.seq (.region 1 [
 ⟨0, some 3, .box 0 (.t 1), none, []⟩,
 ⟨1, some 4, .mv (.k (.sc (.bool false))), none, []⟩] false [0, 3])
 (.seq (.region 0 [
 ⟨0, some 5, .mv (.t 0), none, []⟩,
 ⟨1, some 6, .load (some 2) (.t 3), none, []⟩,
 ⟨2, some 7, .call true (.f 175) [.t 5, .t 6], none, []⟩,
 ⟨3, some 8, .bin .geq (.t 7) (.k (.sc (.int .i64 0))), none, []⟩,
 ⟨4, some 4, .mv (.t 8), none, []⟩] false [4])
 (.ret))), false⟩
def d4M : AC :=
 (.seq (.seq (.region 0 [
 ⟨0, some 17, .mv (.t 15), none, []⟩,
 ⟨1, some 18, .mv (.t 4), none, []⟩,
 ⟨2, some 19, .bin .leq (.t 17) (.t 18), none, []⟩] false [2, 3, 4, 5, 6, 7, 13, 14, 15, 19])
 (.cond (.t 19)
 (.skip)
 (.exit 0)))
 (.seq (.block 1 (.seq (.region 0 [
 ⟨0, some 22, .mv (.t 13), none, []⟩,
 ⟨1, some 14, .mv (.t 22), none, []⟩] false [2, 3, 4, 5, 6, 7, 13, 14, 15])
 (.seq (.seq (.region 0 [
 ⟨0, some 23, .mv (.t 5), none, []⟩,
 ⟨1, some 24, .mv (.t 2), none, []⟩,
 ⟨2, some 25, .mv (.t 15), none, []⟩,
 ⟨3, some 26, .call true (.f 159) [.t 23, .t 24, .t 25], none, []⟩,
 ⟨4, some 27, .un .not (.t 26), none, []⟩] false [2, 3, 4, 5, 6, 7, 13, 14, 15, 27])
 (.cond (.t 27)
 (.region 0 [
 ⟨0, some 28, .mv (.t 13), none, []⟩,
 ⟨1, some 29, .faddr 7 (.t 6), none, []⟩,
 ⟨2, some 30, .load none (.t 29), none, []⟩,
 ⟨3, some 31, .mv (.t 15), none, []⟩,
 ⟨4, some 32, .iaddr 3 (.t 30) (.t 31), none, []⟩,
 ⟨5, some 33, .faddr 0 (.t 32), none, []⟩,
 ⟨6, some 34, .load none (.t 33), none, []⟩,
 ⟨7, some 35, .iarr 3 1 (.t 7) (.k (.sc (.int .i64 0))), none, []⟩,
 ⟨8, some 36, .load none (.t 35), none, []⟩,
 ⟨9, some 37, .bin .mul (.t 34) (.t 36), none, []⟩,
 ⟨10, some 38, .bin .sub (.t 28) (.t 37), none, []⟩,
 ⟨11, some 39, .faddr 7 (.t 6), none, []⟩,
 ⟨12, some 40, .load none (.t 39), none, []⟩,
 ⟨13, some 41, .mv (.t 15), none, []⟩,
 ⟨14, some 42, .iaddr 3 (.t 40) (.t 41), none, []⟩,
 ⟨15, some 43, .faddr 1 (.t 42), none, []⟩,
 ⟨16, some 44, .load none (.t 43), none, []⟩,
 ⟨17, some 45, .iarr 3 1 (.t 7) (.k (.sc (.int .i64 1))), none, []⟩,
 ⟨18, some 46, .load none (.t 45), none, []⟩,
 ⟨19, some 47, .bin .mul (.t 44) (.t 46), none, []⟩,
 ⟨20, some 48, .bin .sub (.t 38) (.t 47), none, []⟩,
 ⟨21, some 14, .mv (.t 48), none, []⟩] true [2, 3, 4, 5, 6, 7, 14, 15])
 (.skip)))
 (.region 0 [
 ⟨0, some 49, .mv (.t 3), none, []⟩,
 ⟨1, some 50, .mv (.t 14), none, []⟩,
 ⟨2, some 51, .iarr 3 1 (.t 7) (.k (.sc (.int .i64 2))), none, []⟩,
 ⟨3, some 52, .load none (.t 51), none, []⟩,
 ⟨4, some 53, .bin .add (.t 50) (.t 52), none, []⟩,
 ⟨5, some 54, .min (.t 49) [.t 53], none, []⟩,
 ⟨6, some 13, .mv (.t 54), none, []⟩] false [2, 3, 4, 5, 6, 7, 13, 14, 15]))))
 (.region 0 [
 ⟨0, some 20, .mv (.t 15), none, []⟩,
 ⟨1, some 21, .bin .add (.t 20) (.k (.sc (.int .i64 1))), none, []⟩,
 ⟨2, some 15, .mv (.t 21), none, []⟩] false [2, 3, 4, 5, 6, 7, 13, 14, 15])))
def d5s : AC := .loop [2, 3, 4, 5, 6, 7, 13, 14, 15] d4M
def d5f : Fn := ⟨6, 56, [(12, none)],
 (.seq (.region 2 [
 ⟨0, some 6, .box 0 (.t 0), none, []⟩,
 ⟨1, some 7, .box 1 (.t 1), none, []⟩,
 ⟨2, some 12, .mv (.k (.sc (.int .i64 0))), none, []⟩] false [2, 3, 4, 5, 6, 7])
 (.seq (.region 0 [
 ⟨0, some 16, .mv (.t 3), none, []⟩,
 ⟨1, some 13, .mv (.t 16), none, []⟩,
 ⟨2, some 14, .mv (.k (.sc (.int .i64 0))), none, []⟩] false [2, 3, 4, 5, 6, 7, 13, 14])
 (.seq (.seq (.region 0 [
 ⟨0, some 15, .mv (.k (.sc (.int .i64 0))), none, []⟩] false [2, 3, 4, 5, 6, 7, 13, 14, 15])
 (.block 0 (d5s)))
 (.seq (.region 0 [
 ⟨0, some 55, .mv (.t 14), none, []⟩,
 ⟨1, some 12, .mv (.t 55), none, []⟩] false [12])
 (.ret))))), false⟩
def a5a : Fn := ⟨2, 16, [(4, none)],
 (.seq (.region 0 [
 ⟨0, some 4, .mv (.k (.sc (.bool false))), none, []⟩] false [0, 1])
 (.seq (.region 0 [
 ⟨0, some 5, .mv (.t 0), none, []⟩,
 ⟨1, some 6, .len 1 (.t 5), none, []⟩,
 ⟨2, some 7, .mv (.t 1), none, []⟩,
 ⟨3, some 8, .len 1 (.t 7), none, []⟩,
 ⟨4, some 9, .call true (.f 163) [.t 6, .t 8], none, []⟩,
 ⟨5, some 10, .mv (.t 0), none, []⟩,
 ⟨6, some 11, .mv (.t 1), none, []⟩,
 ⟨7, some 12, .call true (.f 176) [.t 10, .t 11, .f 131], none, []⟩,
 ⟨8, some 13, .bslice 1 2 [.int .i64 0] [(0, .t 9), (1, .t 12)], none, []⟩,
 ⟨9, some 14, .call true (.f 164) [.t 13], none, []⟩,
 ⟨10, some 15, .bin .lss (.t 14) (.k (.sc (.int .i64 0))), none, []⟩,
 ⟨11, some 4, .mv (.t 15), none, []⟩] false [4])
 (.ret))), false⟩
def a5H : AC :=
 (.seq (.region 0 [
 ⟨0, some 9, .bin .lss (.t 8) (.t 7), none, []⟩] false [3, 6, 7, 8, 9])
 (.seq (.cond (.t 9)
 (.skip)
 (.exit 0))
 (.seq (.block 1 (.seq (.region 0 [
 ⟨0, some 10, .iaddr 1 (.t 6) (.t 8), none, []⟩,
 ⟨1, some 11, .load none (.t 10), none, []⟩,
 ⟨2, some 5, .mv (.t 11), none, []⟩] false [3, 5, 6, 7, 8])
 (.seq (.region 0 [
 ⟨0, some 12, .mv (.t 5), none, []⟩,
 ⟨1, some 13, .mv (.t 3), none, []⟩,
 ⟨2, some 14, .bin .neq (.t 12) (.t 13), none, []⟩] false [3, 5, 6, 7, 8, 14])
 (.cond (.t 14)
 (.seq (.region 0 [
 ⟨0, some 15, .mv (.t 5), none, []⟩,
 ⟨1, some 2, .mv (.t 15), none, []⟩] false [2])
 (.ret))
 (.skip)))))
 (.region 0 [
 ⟨0, some 16, .bin .add (.t 8) (.k (.sc (.int .i64 1))), none, []⟩,
 ⟨1, some 8, .mv (.t 16), none, []⟩] false [3, 6, 7, 8]))))
def a5I : AC := .loop [3, 6, 7, 8] a5H
def a5n : Fn := ⟨1, 18, [(2, none)],
 (.seq (.region 0 [
 ⟨0, some 2, .mv (.k (.sc (.int .i64 0))), none, []⟩] false [0])
 (.seq (.region 0 [
 ⟨0, some 3, .mv (.k (.sc (.int .i64 0))), none, []⟩] false [0, 3])
 (.seq (.seq (.region 0 [
 ⟨0, some 6, .mv (.t 0), none, []⟩,
 ⟨1, some 7, .len 1 (.t 6), none, []⟩,
 ⟨2, some 8, .mv (.k (.sc (.int .i64 0))), none, []⟩] false [3, 6, 7, 8])
 (.block 0 (a5I)))
 (.seq (.region 0 [
 ⟨0, some 17, .mv (.t 3), none, []⟩,
 ⟨1, some 2, .mv (.t 17), none, []⟩] false [2])
 (.ret))))), false⟩
def cmp_Compare_int : Fn := ⟨2, 20, [(4, none)],
 (.seq (.region 0 [
 ⟨0, some 4, .mv (.k (.sc (.int .i64 0))), none, []⟩] false [0, 1])
 (.seq (.region 0 [
 ⟨0, some 7, .mv (.t 0), none, []⟩,
 ⟨1, some 8, .call true (.f 177) [.t 7], none, []⟩,
 ⟨2, some 5, .mv (.t 8), none, []⟩] false [0, 1, 5])
 (.seq (.region 0 [
 ⟨0, some 9, .mv (.t 1), none, []⟩,
 ⟨1, some 10, .call true (.f 177) [.t 9], none, []⟩,
 ⟨2, some 6, .mv (.t 10), none, []⟩] false [0, 1, 5, 6])
 (.seq (.seq (.region 0 [
 ⟨0, some 11, .mv (.t 5), none, []⟩] false [0, 1, 6, 11])
 (.cond (.t 11)
 (.seq (.seq (.region 0 [
 ⟨0, some 12, .mv (.t 6), none, []⟩] false [12])
 (.cond (.t 12)
 (.seq (.region 0 [
 ⟨0, some 4, .mv (.k (.sc (.int .i64 0))), none, []⟩] false [4])
 (.ret))
 (.skip)))
 (.seq (.region 0 [
 ⟨0, some 4, .mv (.k (.sc (.int .i64 (-1)))), none, []⟩] false [4])
 (.ret)))
 (.skip)))
 (.seq (.seq (.region 0 [
 ⟨0, some 13, .mv (.t 6), none, []⟩] false [0, 1, 13])
 (.cond (.t 13)
 (.seq (.region 0 [
 ⟨0, some 4, .mv (.k (.sc (.int .i64 1))), none, []⟩] false [4])
 (.ret))
 (.skip)))
 (.seq (.seq (.region 0 [
 ⟨0, some 14, .mv (.t 0), none, []⟩,
 ⟨1, some 15, .mv (.t 1), none, []⟩,
 ⟨2, some 16, .bin .lss (.t 14) (.t 15), none, []⟩] false [0, 1, 16])
 (.cond (.t 16)
 (.seq (.region 0 [
 ⟨0, some 4, .mv (.k (.sc (.int .i64 (-1)))), none, []⟩] false [4])
 (.ret))
 (.skip)))
 (.seq (.seq (.region 0 [
 ⟨0, some 17, .mv (.t 0), none, []⟩,
 ⟨1, some 18, .mv (.t 1), none, []⟩,
 ⟨2, some 19, .bin .gtr (.t 17) (.t 18), none, []⟩] false [19])
 (.cond (.t 19)
 (.seq (.region 0 [
 ⟨0, some 4, .mv (.k (.sc (.int .i64 1))), none, []⟩] false [4])
 (.ret))
 (.skip)))
 (.seq (.region 0 [
 ⟨0, some 4, .mv (.k (.sc (.int .i64 0))), none, []⟩] false [4])
 (.ret))))))))), false⟩
def a0i : AC :=
 (.seq (.region 0 [
 ⟨0, some 14, .bin .lss (.t 13) (.t 12), none, []⟩] false [0, 1, 2, 11, 12, 13, 14])
 (.seq (.cond (.t 14)
 (.skip)
 (.exit 0))
 (.seq (.block 1 (.seq (.region 1 [
 ⟨0, some 15, .mv (.t 13), none, []⟩,
 ⟨1, some 16, .iaddr 2 (.t 11) (.t 13), none, []⟩,
 ⟨2, some 17, .load (some 2) (.t 16), none, []⟩,
 ⟨3, some 8, .alloc 0 [.int .i64 0, .int .i64 0], none, []⟩,
 ⟨4, some 7, .mv (.t 15), none, []⟩,
 ⟨5, none, .store 2 (.t 8) (.t 17), none, []⟩] false [0, 1, 2, 7, 8, 11, 12, 13])
 (.seq (.seq (.region 0 [
 ⟨0, some 18, .mv (.t 7), none, []⟩,
 ⟨1, some 19, .mv (.t 1), none, []⟩,
 ⟨2, some 20, .len 1 (.t 19), none, []⟩,
 ⟨3, some 21, .bin .geq (.t 18) (.t 20), none, []⟩] false [0, 1, 2, 7, 8, 11, 12, 13, 21])
 (.cond (.t 21)
 (.seq (.region 0 [
 ⟨0, some 6, .mv (.k (.sc (.int .i64 1))), none, []⟩] false [6])
 (.ret))
 (.skip)))
 (.seq (.region 1 [
 ⟨0, some 22, .mv (.t 1), none, []⟩,
 ⟨1, some 23, .mv (.t 7), none, []⟩,
 ⟨2, some 24, .iaddr 2 (.t 22) (.t 23), none, []⟩,
 ⟨3, some 25, .load (some 2) (.t 24), none, []⟩,
 ⟨4, some 9, .alloc 0 [.int .i64 0, .int .i64 0], none, []⟩,
 ⟨5, none, .store 2 (.t 9) (.t 25), none, []⟩] false [0, 1, 2, 8, 9, 11, 12, 13])
 (.seq (.region 0 [
 ⟨0, some 26, .mv (.t 2), none, []⟩,
 ⟨1, some 27, .load (some 2) (.t 8), none, []⟩,
 ⟨2, some 28, .load (some 2) (.t 9), none, []⟩,
 ⟨3, some 29, .call true (.t 26) [.t 27, .t 28], none, []⟩,
 ⟨4, some 10, .mv (.t 29), none, []⟩] false [0, 1, 2, 10, 11, 12, 13])
 (.seq (.region 0 [
 ⟨0, some 30, .mv (.t 10), none, []⟩,
 ⟨1, some 31, .bin .neq (.t 30) (.k (.sc (.int .i64 0))), none, []⟩] false [0, 1, 2, 10, 11, 12, 13, 31])
 (.cond (.t 31)
 (.seq (.region 0 [
 ⟨0, some 32, .mv (.t 10), none, []⟩,
 ⟨1, some 6, .mv (.t 32), none, []⟩] false [6])
 (.ret))
 (.skip))))))))
 (.region 0 [
 ⟨0, some 33, .bin .add (.t 13) (.k (.sc (.int .i64 1))), none, []⟩,
 ⟨1, some 13, .mv (.t 33), none, []⟩] false [0, 1, 2, 11, 12, 13]))))
def a1V : AC := .loop [0, 1, 2, 11, 12, 13] a0i
def a0D : Fn := ⟨3, 39, [(6, none)],
 (.seq (.region 0 [
 ⟨0, some 6, .mv (.k (.sc (.int .i64 0))), none, []⟩] false [0, 1, 2])
 (.seq (.seq (.region 0 [
 ⟨0, some 11, .mv (.t 0), none, []⟩,
 ⟨1, some 12, .len 1 (.t 11), none, []⟩,
 ⟨2, some 13, .mv (.k (.sc (.int .i64 0))), none, []⟩] false [0, 1, 2, 11, 12, 13])
 (.block 0 (a1V)))
 (.seq (.seq (.region 0 [
 ⟨0, some 34, .mv (.t 0), none, []⟩,
 ⟨1, some 35, .len 1 (.t 34), none, []⟩,
 ⟨2, some 36, .mv (.t 1), none, []⟩,
 ⟨3, some 37, .len 1 (.t 36), none, []⟩,
 ⟨4, some 38, .bin .lss (.t 35) (.t 37), none, []⟩] false [38])
 (.cond (.t 38)
 (.seq (.region 0 [
 ⟨0, some 6, .mv (.k (.sc (.int .i64 (-1)))), none, []⟩] false [6])
 (.ret))
 (.skip)))
 (.seq (.region 0 [
 ⟨0, some 6, .mv (.k (.sc (.int .i64 0))), none, []⟩] false [6])
 (.ret))))), false⟩
def a1X : AC :=
 (.block 1 (.seq (.region 0 [
 ⟨0, some 21, .mv (.t 2), none, []⟩,
 ⟨1, some 22, .mv (.t 1), none, []⟩,
 ⟨2, some 23, .bin .sub (.t 21) (.t 22), none, []⟩,
 ⟨3, some 12, .mv (.t 23), none, []⟩] false [0, 1, 2, 3, 4, 10, 11, 12])
 (.seq (.seq (.region 0 [
 ⟨0, some 24, .mv (.t 12), none, []⟩,
 ⟨1, some 25, .bin .leq (.t 24) (.k (.sc (.int .i64 12))), none, []⟩] false [0, 1, 2, 3, 4, 10, 11, 12, 25])
 (.cond (.t 25)
 (.seq (.region 0 [
 ⟨0, some 26, .mv (.t 0), none, []⟩,
 ⟨1, some 27, .mv (.t 1), none, []⟩,
 ⟨2, some 28, .mv (.t 2), none, []⟩,
 ⟨3, some 29, .mv (.t 4), none, []⟩,
 ⟨4, some 30, .call false (.f 178) [.t 26, .t 27, .t 28, .t 29], none, []⟩] false [])
 (.ret))
 (.skip)))
 (.seq (.seq (.region 0 [
 ⟨0, some 31, .mv (.t 3), none, []⟩,
 ⟨1, some 32, .bin .eql (.t 31) (.k (.sc (.int .i64 0))), none, []⟩] false [0, 1, 2, 3, 4, 10, 11, 12, 32])
 (.cond (.t 32)
 (.seq (.region 0 [
 ⟨0, some 33, .mv (.t 0), none, []⟩,
 ⟨1, some 34, .mv (.t 1), none, []⟩,
 ⟨2, some 35, .mv (.t 2), none, []⟩,
 ⟨3, some 36, .mv (.t 4), none, []⟩,
 ⟨4, some 37, .call false (.f 179) [.t 33, .t 34, .t 35, .t 36], none, []⟩] false [])
 (.ret))
 (.skip)))
 (.seq (.seq (.region 0 [
 ⟨0, some 38, .mv (.t 10), none, []⟩,
 ⟨1, some 39, .un .not (.t 38), none, []⟩] false [0, 1, 2, 3, 4, 10, 11, 12, 39])
 (.cond (.t 39)
 (.seq (.region 0 [
 ⟨0, some 40, .mv (.t 0), none, []⟩,
 ⟨1, some 41, .mv (.t 1), none, []⟩,
 ⟨2, some 42, .mv (.t 2), none, []⟩,
 ⟨3, some 43, .mv (.t 4), none, []⟩,
 ⟨4, some 44, .call false (.f 180) [.t 40, .t 41, .t 42, .t 43], none, []⟩] false [0, 1, 2, 3, 4, 10, 11, 12])
 (.region 0 [
 ⟨0, some 45, .mv (.t 3), none, []⟩,
 ⟨1, some 46, .bin .sub (.t 45) (.k (.sc (.int .i64 1))), none, []⟩,
 ⟨2, some 3, .mv (.t 46), none, []⟩] false [0, 1, 2, 3, 4, 10, 11, 12]))
 (.skip)))
 (.seq (.region 0 [
 ⟨0, some 48, .mv (.t 0), none, []⟩,
 ⟨1, some 49, .mv (.t 1), none, []⟩,
 ⟨2, some 50, .mv (.t 2), none, []⟩,
 ⟨3, some 51, .mv (.t 4), none, []⟩,
 ⟨4, some 52, .call false (.f 181) [.t 48, .t 49, .t 50, .t 51], none, []⟩,
 ⟨5, some 47, .mv (.t 52), none, []⟩,
 ⟨6, some 53, .ext (.t 47) 0, none, []⟩,
 ⟨7, some 54, .ext (.t 47) 1, none, []⟩,
 ⟨8, some 13, .mv (.t 53), none, []⟩,
 ⟨9, some 14, .mv (.t 54), none, []⟩] false [0, 1, 2, 3, 4, 10, 11, 12, 13, 14])
 (.seq (.seq (.region 0 [
 ⟨0, some 55, .mv (.t 14), none, []⟩,
 ⟨1, some 56, .bin .eql (.t 55) (.k (.sc (.int .i64 2))), none, []⟩] false [0, 1, 2, 3, 4, 10, 11, 12, 13, 14, 56])
 (.cond (.t 56)
 (.seq (.region 0 [
 ⟨0, some 57, .mv (.t 0), none, []⟩,
 ⟨1, some 58, .mv (.t 1), none, []⟩,
 ⟨2, some 59, .mv (.t 2), none, []⟩,
 ⟨3, some 60, .mv (.t 4), none, []⟩,
 ⟨4, some 61, .call false (.f 182) [.t 57, .t 58, .t 59, .t 60], none, []⟩] false [0, 1, 2, 3, 4, 10, 11, 12, 13])
 (.seq (.region 0 [
 ⟨0, some 62, .mv (.t 2), none, []⟩,
 ⟨1, some 63, .bin .sub (.t 62) (.k (.sc (.int .i64 1))), none, []⟩,
 ⟨2, some 64, .mv (.t 13), none, []⟩,
 ⟨3, some 65, .mv (.t 1), none, []⟩,
 ⟨4, some 66, .bin .sub (.t 64) (.t 65), none, []⟩,
 ⟨5, some 67, .bin .sub (.t 63) (.t 66), none, []⟩,
 ⟨6, some 13, .mv (.t 67), none, []⟩] false [0, 1, 2, 3, 4, 10, 11, 12, 13])
 (.region 0 [
 ⟨0, some 14, .mv (.k (.sc (.int .i64 1))), none, []⟩] false [0, 1, 2, 3, 4, 10, 11, 12, 13, 14])))
 (.skip)))
 (.seq (.seq (.region 0 [
 ⟨0, some 68, .mv (.t 10), none, []⟩,
 ⟨1, some 69, .mv (.t 68), none, []⟩,
 ⟨2, some 70, .mv (.t 11), some (69, true), []⟩,
 ⟨3, some 71, .pick (.t 69) (.t 70) (.k (.sc (.bool false))), none, []⟩,
 ⟨4, some 72, .mv (.t 71), none, []⟩,
 ⟨5, some 73, .mv (.t 14), some (72, true), []⟩,
 ⟨6, some 74, .bin .eql (.t 73) (.k (.sc (.int .i64 1))), some (72, true), []⟩,
 ⟨7, some 75, .pick (.t 72) (.t 74) (.k (.sc (.bool false))), none, []⟩] false [0, 1, 2, 3, 4, 10, 11, 12, 13, 75])
 (.cond (.t 75)
 (.seq (.region 0 [
 ⟨0, some 76, .mv (.t 0), none, []⟩,
 ⟨1, some 77, .mv (.t 1), none, []⟩,
 ⟨2, some 78, .mv (.t 2), none, []⟩,
 ⟨3, some 79, .mv (.t 4), none, []⟩,
 ⟨4, some 80, .call false (.f 183) [.t 76, .t 77, .t 78, .t 79], none, []⟩] false [0, 1, 2, 3, 4, 10, 11, 12, 13, 80])
 (.cond (.t 80)
 (.ret)
 (.skip)))
 (.skip)))
 (.seq (.seq (.region 0 [
 ⟨0, some 81, .mv (.t 1), none, []⟩,
 ⟨1, some 82, .bin .gtr (.t 81) (.k (.sc (.int .i64 0))), none, []⟩,
 ⟨2, some 83, .mv (.t 82), none, []⟩,
 ⟨3, some 84, .mv (.t 4), some (83, true), []⟩,
 ⟨4, some 85, .mv (.t 0), some (83, true), []⟩,
 ⟨5, some 86, .mv (.t 1), some (83, true), []⟩,
 ⟨6, some 87, .bin .sub (.t 86) (.k (.sc (.int .i64 1))), some (83, true), []⟩,
 ⟨7, some 88, .iaddr 2 (.t 85) (.t 87), some (83, true), []⟩,
 ⟨8, some 89, .load (some 2) (.t 88), some (83, true), []⟩,
 ⟨9, some 90, .mv (.t 0), some (83, true), []⟩,
 ⟨10, some 91, .mv (.t 13), some (83, true), []⟩,
 ⟨11, some 92, .iaddr 2 (.t 90) (.t 91), some (83, true), []⟩,
 ⟨12, some 93, .load (some 2) (.t 92), some (83, true), []⟩,
 ⟨13, some 94, .call true (.t 84) [.t 89, .t 93], some (83, true), []⟩,
 ⟨14, some 95, .bin .lss (.t 94) (.k (.sc (.int .i64 0))), some (83, true), []⟩,
 ⟨15, some 96, .un .not (.t 95), some (83, true), []⟩,
 ⟨16, some 97, .pick (.t 83) (.t 96) (.k (.sc (.bool false))), none, []⟩] true [0, 1, 2, 3, 4, 10, 11, 12, 13, 97])
 (.cond (.t 97)
 (.seq (.region 0 [
 ⟨0, some 98, .mv (.t 0), none, []⟩,
 ⟨1, some 99, .mv (.t 1), none, []⟩,
 ⟨2, some 100, .mv (.t 2), none, []⟩,
 ⟨3, some 101, .mv (.t 13), none, []⟩,
 ⟨4, some 102, .mv (.t 4), none, []⟩,
 ⟨5, some 103, .call false (.f 184) [.t 98, .t 99, .t 100, .t 101, .t 102], none, []⟩,
 ⟨6, some 15, .mv (.t 103), none, []⟩] false [0, 2, 3, 4, 10, 11, 15])
 (.seq (.region 0 [
 ⟨0, some 104, .mv (.t 15), none, []⟩,
 ⟨1, some 1, .mv (.t 104), none, []⟩] false [0, 1, 2, 3, 4, 10, 11])
 (.exit 1)))
 (.skip)))
 (.seq (.region 0 [
 ⟨0, some 106, .mv (.t 0), none, []⟩,
 ⟨1, some 107, .mv (.t 1), none, []⟩,
 ⟨2, some 108, .mv (.t 2), none, []⟩,
 ⟨3, some 109, .mv (.t 13), none, []⟩,
 ⟨4, some 110, .mv (.t 4), none, []⟩,
 ⟨5, some 111, .call false (.f 185) [.t 106, .t 107, .t 108, .t 109, .t 110], none, []⟩,
 ⟨6, some 105, .mv (.t 111), none, []⟩,
 ⟨7, some 112, .ext (.t 105) 0, none, []⟩,
 ⟨8, some 113, .ext (.t 105) 1, none, []⟩,
 ⟨9, some 16, .mv (.t 112), none, []⟩,
 ⟨10, some 17, .mv (.t 113), none, []⟩] false [0, 1, 2, 3, 4, 12, 16, 17])
 (.seq (.region 0 [
 ⟨0, some 114, .mv (.t 17), none, []⟩,
 ⟨1, some 11, .mv (.t 114), none, []⟩] false [0, 1, 2, 3, 4, 11, 12, 16])
 (.seq (.region 0 [
 ⟨0, some 115, .mv (.t 16), none, []⟩,
 ⟨1, some 116, .mv (.t 1), none, []⟩,
 ⟨2, some 117, .bin .sub (.t 115) (.t 116), none, []⟩,
 ⟨3, some 118, .mv (.t 2), none, []⟩,
 ⟨4, some 119, .mv (.t 16), none, []⟩,
 ⟨5, some 120, .bin .sub (.t 118) (.t 119), none, []⟩,
 ⟨6, some 18, .mv (.t 117), none, []⟩,
 ⟨7, some 19, .mv (.t 120), none, []⟩] false [0, 1, 2, 3, 4, 11, 12, 16, 18, 19])
 (.seq (.region 0 [
 ⟨0, some 121, .mv (.t 12), none, []⟩,
 ⟨1, some 122, .bin .quo (.t 121) (.k (.sc (.int .i64 8))), none, []⟩,
 ⟨2, some 20, .mv (.t 122), none, []⟩] false [0, 1, 2, 3, 4, 11, 16, 18, 19, 20])
 (.seq (.region 0 [
 ⟨0, some 123, .mv (.t 18), none, []⟩,
 ⟨1, some 124, .mv (.t 19), none, []⟩,
 ⟨2, some 125, .bin .lss (.t 123) (.t 124), none, []⟩] false [0, 1, 2, 3, 4, 11, 16, 18, 19, 20, 125])
 (.cond (.t 125)
 (.seq (.region 0 [
 ⟨0, some 126, .mv (.t 18), none, []⟩,
 ⟨1, some 127, .mv (.t 20), none, []⟩,
 ⟨2, some 128, .bin .geq (.t 126) (.t 127), none, []⟩,
 ⟨3, some 10, .mv (.t 128), none, []⟩] false [0, 1, 2, 3, 4, 10, 11, 16])
 (.seq (.region 0 [
 ⟨0, some 129, .mv (.t 0), none, []⟩,
 ⟨1, some 130, .mv (.t 1), none, []⟩,
 ⟨2, some 131, .mv (.t 16), none, []⟩,
 ⟨3, some 132, .mv (.t 3), none, []⟩,
 ⟨4, some 133, .mv (.t 4), none, []⟩,
 ⟨5, some 134, .call false (.f 162) [.t 129, .t 130, .t 131, .t 132, .t 133], none, []⟩] false [0, 2, 3, 4, 10, 11, 16])
 (.region 0 [
 ⟨0, some 135, .mv (.t 16), none, []⟩,
 ⟨1, some 136, .bin .add (.t 135) (.k (.sc (.int .i64 1))), none, []⟩,
 ⟨2, some 1, .mv (.t 136), none, []⟩] false [0, 1, 2, 3, 4, 10, 11])))
 (.seq (.region 0 [
 ⟨0, some 137, .mv (.t 19), none, []⟩,
 ⟨1, some 138, .mv (.t 20), none, []⟩,
 ⟨2, some 139, .bin .geq (.t 137) (.t 138), none, []⟩,
 ⟨3, some 10, .mv (.t 139), none, []⟩] false [0, 1, 2, 3, 4, 10, 11, 16])
 (.seq (.region 0 [
 ⟨0, some 140, .mv (.t 0), none, []⟩,
 ⟨1, some 141, .mv (.t 16), none, []⟩,
 ⟨2, some 142, .bin .add (.t 141) (.k (.sc (.int .i64 1))), none, []⟩,
 ⟨3, some 143, .mv (.t 2), none, []⟩,
 ⟨4, some 144, .mv (.t 3), none, []⟩,
 ⟨5, some 145, .mv (.t 4), none, []⟩,
 ⟨6, some 146, .call false (.f 162) [.t 140, .t 142, .t 143, .t 144, .t 145], none, []⟩] false [0, 1, 3, 4, 10, 11, 16])
 (.region 0 [
 ⟨0, some 147, .mv (.t 16), none, []⟩,
 ⟨1, some 2, .mv (.t 147), none, []⟩] false [0, 1, 2, 3, 4, 10, 11]))))))))))))))))))
def a1Y : AC := .loop [0, 1, 2, 3, 4, 10, 11] a1X
def a1v : Fn := ⟨5, 148, [],
 (.seq (.region 0 [
 ⟨0, some 10, .mv (.k (.sc (.bool true))), none, []⟩] false [0, 1, 2, 3, 4, 10])
 (.seq (.region 0 [
 ⟨0, some 11, .mv (.k (.sc (.bool true))), none, []⟩] false [0, 1, 2, 3, 4, 10, 11])
 (.block 0 (a1Y)))), false⟩
def a5J : Fn := ⟨1, 8, [(2, none)],
 (.seq (.region 0 [
 ⟨0, some 2, .mv (.k (.sc (.int .i64 0))), none, []⟩] false [0])
 (.seq (.cond (.k (.sc (.bool false)))
 (.seq (.region 0 [
 ⟨0, some 3, .mv (.t 0), none, []⟩,
 ⟨1, some 4, .conv .u32 (.t 3), none, []⟩,
 ⟨2, some 5, .call true (.f 186) [.t 4], none, []⟩,
 ⟨3, some 2, .mv (.t 5), none, []⟩] false [2])
 (.ret))
 (.skip))
 (.seq (.region 0 [
 ⟨0, some 6, .mv (.t 0), none, []⟩,
 ⟨1, some 7, .call true (.f 187) [.t 6], none, []⟩,
 ⟨2, some 2, .mv (.t 7), none, []⟩] false [2])
 (.ret)))), false⟩
def a2Q : Fn := ⟨2, 9, [(4, none)],
 (.seq (.region 0 [
 ⟨0, some 4, .mv (.k (.sc (.bool false))), none, []⟩] false [0, 1])
 (.seq (.region 0 [
 ⟨0, some 5, .mv (.t 0), none, []⟩,
 ⟨1, some 6, .mv (.t 1), none, []⟩,
 ⟨2, some 7, .call true (.f 83) [.t 5, .t 6], none, []⟩,
 ⟨3, some 8, .bin .geq (.t 7) (.k (.sc (.int .i64 0))), none, []⟩,
 ⟨4, some 4, .mv (.t 8), none, []⟩] false [4])
 (.ret))), false⟩
def a3u : Fn := ⟨2, 8, [],
 (.seq (.region 1 [
 ⟨0, some 2, .box 0 (.t 0), none, []⟩] false [1, 2])
 (.seq (.region 1 [
 ⟨0, some 3, .alloc 0 [.nilf], none, []⟩] false [1, 2, 3])
 (.seq (.region 0 [
 ⟨0, some 4, .mkf 196 [] [] [.t 2, .t 1, .t 3], none, []⟩,
 ⟨1, none, .store 1 (.t 3) (.t 4), none, []⟩] false [3])
 (.region 0 [
 ⟨0, some 5, .load none (.t 3), none, []⟩,
 ⟨1, some 6, .call true (.f 197) [], none, []⟩,
 ⟨2, some 7, .call false (.t 5) [.t 6, .k (.sc (.int .i64 0))], none, []⟩] true [])))), false⟩
def a0u : AC :=
 (.seq (.region 0 [
 ⟨0, some 27, .bin .lss (.t 26) (.t 25), none, []⟩] false [1, 4, 5, 8, 25, 26, 27])
 (.seq (.cond (.t 27)
 (.skip)
 (.exit 0))
 (.seq (.block 1 (.seq (.region 0 [
 ⟨0, some 28, .mv (.t 26), none, []⟩,
 ⟨1, some 9, .mv (.t 28), none, []⟩] false [1, 4, 5, 8, 9, 25, 26])
 (.seq (.region 0 [
 ⟨0, some 29, .mv (.t 1), none, []⟩,
 ⟨1, some 30, .faddr 0 (.t 8), none, []⟩,
 ⟨2, some 31, .load none (.t 30), none, []⟩,
 ⟨3, some 32, .mv (.t 9), none, []⟩,
 ⟨4, some 33, .bin .add (.t 31) (.t 32), none, []⟩,
 ⟨5, some 34, .iarr 3 1 (.t 5) (.t 29), none, []⟩,
 ⟨6, none, .store 1 (.t 34) (.t 33), none, []⟩] false [1, 4, 5, 8, 25, 26])
 (.seq (.region 0 [
 ⟨0, some 35, .load none (.t 4), none, []⟩,
 ⟨1, some 36, .load (some 3) (.t 5), none, []⟩,
 ⟨2, some 37, .mv (.t 1), none, []⟩,
 ⟨3, some 38, .bin .add (.t 37) (.k (.sc (.int .i64 1))), none, []⟩,
 ⟨4, some 39, .call false (.t 35) [.t 36, .t 38], none, []⟩,
 ⟨5, some 40, .un .not (.t 39), none, []⟩] false [1, 4, 5, 8, 25, 26, 40])
 (.cond (.t 40)
 (.seq (.region 0 [
 ⟨0, some 7, .mv (.k (.sc (.bool false))), none, []⟩] false [7])
 (.ret))
 (.skip))))))
 (.region 0 [
 ⟨0, some 41, .bin .add (.t 26) (.k (.sc (.int .i64 1))), none, []⟩,
 ⟨1, some 26, .mv (.t 41), none, []⟩] false [1, 4, 5, 8, 25, 26]))))
def a7A : AC := .loop [1, 4, 5, 8, 25, 26] a0u
def a1O : Fn := ⟨5, 42, [(7, none)],
 (.seq (.region 1 [
 ⟨0, some 5, .box 0 (.t 0), none, []⟩,
 ⟨1, some 7, .mv (.k (.sc (.bool false))), none, []⟩] false [1, 2, 3, 4, 5])
 (.seq (.seq (.region 0 [
 ⟨0, some 10, .mv (.t 1), none, []⟩,
 ⟨1, some 11, .bin .eql (.t 10) (.k (.sc (.int .i64 3))), none, []⟩] false [1, 2, 3, 4, 5, 11])
 (.cond (.t 11)
 (.seq (.region 0 [
 ⟨0, some 12, .load none (.t 2), none, []⟩,
 ⟨1, some 13, .load (some 3) (.t 5), none, []⟩,
 ⟨2, some 14, .call false (.t 12) [.t 13], none, []⟩,
 ⟨3, some 7, .mv (.t 14), none, []⟩] false [7])
 (.ret))
 (.skip)))
 (.seq (.region 1 [
 ⟨0, some 15, .mv (.t 1), none, []⟩,
 ⟨1, some 16, .faddr 0 (.t 3), none, []⟩,
 ⟨2, some 17, .faddr 1 (.t 16), none, []⟩,
 ⟨3, some 18, .iarr 3 2 (.t 17) (.t 15), none, []⟩,
 ⟨4, some 19, .load (some 2) (.t 18), none, []⟩,
 ⟨5, some 8, .alloc 0 [.int .i64 0, .int .i64 0], none, []⟩,
 ⟨6, none, .store 2 (.t 8) (.t 19), none, []⟩] false [1, 4, 5, 8])
 (.seq (.seq (.region 0 [
 ⟨0, some 20, .faddr 1 (.t 8), none, []⟩,
 ⟨1, some 21, .load none (.t 20), none, []⟩,
 ⟨2, some 22, .faddr 0 (.t 8), none, []⟩,
 ⟨3, some 23, .load none (.t 22), none, []⟩,
 ⟨4, some 24, .bin .sub (.t 21) (.t 23), none, []⟩,
 ⟨5, some 25, .bin .add (.t 24) (.k (.sc (.int .i64 1))), none, []⟩,
 ⟨6, some 26, .mv (.k (.sc (.int .i64 0))), none, []⟩] false [1, 4, 5, 8, 25, 26])
 (.block 0 (a7A)))
 (.seq (.region 0 [
 ⟨0, some 7, .mv (.k (.sc (.bool true))), none, []⟩] false [7])
 (.ret)))))), false⟩
def a5v : Fn := ⟨0, 3, [(0, some (some 3))],
 (.seq (.region 1 [
 ⟨0, some 0, .alloc 0 [.int .i64 0, .int .i64 0, .int .i64 0], none, []⟩] false [0])
 (.seq (.region 1 [
 ⟨0, some 1, .alloc 0 [.int .i64 0, .int .i64 0, .int .i64 0], none, []⟩] false [0, 1])
 (.seq (.region 0 [
 ⟨0, some 2, .load (some 3) (.t 1), none, []⟩,
 ⟨1, none, .store 3 (.t 0) (.t 2), none, []⟩] false [0])
 (.ret)))), false⟩
def a0y : AC :=
 (.seq (.region 0 [
 ⟨0, some 9, .bin .lss (.t 8) (.t 7), none, []⟩] false [0, 3, 7, 8, 9])
 (.seq (.cond (.t 9)
 (.skip)
 (.exit 0))
 (.seq (.block 1 (.seq (.region 0 [
 ⟨0, some 10, .mv (.t 8), none, []⟩,
 ⟨1, some 5, .mv (.t 10), none, []⟩] false [0, 3, 5, 7, 8])
 (.seq (.region 0 [
 ⟨0, some 11, .load (some 2) (.t 3), none, []⟩,
 ⟨1, some 12, .mv (.t 0), none, []⟩,
 ⟨2, some 13, .mv (.t 5), none, []⟩,
 ⟨3, some 14, .iaddr 2 (.t 12) (.t 13), none, []⟩,
 ⟨4, some 15, .load (some 2) (.t 14), none, []⟩,
 ⟨5, some 16, .eqf false ⟨true, [1, 1]⟩ (.t 11) (.t 15), none, []⟩] true [0, 3, 5, 7, 8, 16])
 (.cond (.t 16)
 (.seq (.region 0 [
 ⟨0, some 17, .mv (.t 5), none, []⟩,
 ⟨1, some 4, .mv (.t 17), none, []⟩] false [4])
 (.ret))
 (.skip)))))
 (.region 0 [
 ⟨0, some 18, .bin .add (.t 8) (.k (.sc (.int .i64 1))), none, []⟩,
 ⟨1, some 8, .mv (.t 18), none, []⟩] false [0, 3, 7, 8]))))
def a3R : AC := .loop [0, 3, 7, 8] a0y
def a1x : Fn := ⟨2, 19, [(4, none)],
 (.seq (.region 1 [
 ⟨0, some 3, .box 0 (.t 1), none, []⟩,
 ⟨1, some 4, .mv (.k (.sc (.int .i64 0))), none, []⟩] false [0, 3])
 (.seq (.seq (.region 0 [
 ⟨0, some 6, .mv (.t 0), none, []⟩,
 ⟨1, some 7, .len 1 (.t 6), none, []⟩,
 ⟨2, some 8, .mv (.k (.sc (.int .i64 0))), none, []⟩] false [0, 3, 7, 8])
 (.block 0 (a3R)))
 (.seq (.region 0 [
 ⟨0, some 4, .mv (.k (.sc (.int .i64 (-1)))), none, []⟩] false [4])
 (.ret)))), false⟩
def d4O : AC :=
 (.seq (.seq (.region 0 [
 ⟨0, some 8, .mv (.t 7), none, []⟩,
 ⟨1, some 9, .mv (.t 0), none, []⟩,
 ⟨2, some 10, .len 1 (.t 9), none, []⟩,
 ⟨3, some 11, .bin .lss (.t 8) (.t 10), none, []⟩] false [0, 1, 2, 7, 11])
 (.cond (.t 11)
 (.skip)
 (.exit 0)))
 (.seq (.block 1 (.seq (.region 0 [
 ⟨0, some 14, .mv (.t 0), none, []⟩,
 ⟨1, some 15, .mv (.t 7), none, []⟩,
 ⟨2, some 16, .iaddr 2 (.t 14) (.t 15), none, []⟩,
 ⟨3, some 17, .load (some 2) (.t 16), none, []⟩,
 ⟨4, some 18, .mv (.t 2), none, []⟩,
 ⟨5, some 19, .mv (.t 1), none, []⟩,
 ⟨6, some 20, .build [.int .i64 0, .int .i64 0] [(0, 1, .t 18), (1, 1, .t 19)], none, []⟩,
 ⟨7, some 21, .eqf false ⟨true, [1, 1]⟩ (.t 17) (.t 20), none, []⟩] false [0, 1, 2, 7, 21])
 (.cond (.t 21)
 (.seq (.region 0 [
 ⟨0, some 6, .mv (.k (.sc (.bool true))), none, []⟩] false [6])
 (.ret))
 (.skip))))
 (.region 0 [
 ⟨0, some 12, .mv (.t 7), none, []⟩,
 ⟨1, some 13, .bin .add (.t 12) (.k (.sc (.int .i64 1))), none, []⟩,
 ⟨2, some 7, .mv (.t 13), none, []⟩] false [0, 1, 2, 7])))
def d5m : AC := .loop [0, 1, 2, 7] d4O
def d5h : Fn := ⟨3, 22, [(6, none)],
 (.seq (.region 0 [
 ⟨0, some 6, .mv (.k (.sc (.bool false))), none, []⟩] false [0, 1, 2])
 (.seq (.seq (.region 0 [
 ⟨0, some 7, .mv (.k (.sc (.int .i64 0))), none, []⟩] false [0, 1, 2, 7])
 (.block 0 (d5m)))
 (.seq (.region 0 [
 ⟨0, some 6, .mv (.k (.sc (.bool false))), none, []⟩] false [6])
 (.ret)))), false⟩
def cmp_isNaN_int : Fn := ⟨1, 6, [(2, none)],
 (.seq (.region 0 [
 ⟨0, some 2, .mv (.k (.sc (.bool false))), none, []⟩] false [0])
 (.seq (.region 0 [
 ⟨0, some 3, .mv (.t 0), none, []⟩,
 ⟨1, some 4, .mv (.t 0), none, []⟩,
 ⟨2, some 5, .bin .neq (.t 3) (.t 4), none, []⟩,
 ⟨3, some 2, .mv (.t 5), none, []⟩] false [2])
 (.ret))), false⟩
def a0B : AC :=
 (.seq (.seq (.region 0 [
 ⟨0, some 18, .mv (.t 9), none, []⟩,
 ⟨1, some 19, .mv (.t 1), none, []⟩,
 ⟨2, some 20, .bin .gtr (.t 18) (.t 19), none, []⟩,
 ⟨3, some 21, .mv (.t 20), none, []⟩,
 ⟨4, some 22, .mv (.t 3), some (21, true), []⟩,
 ⟨5, some 23, .mv (.t 0), some (21, true), []⟩,
 ⟨6, some 24, .mv (.t 9), some (21, true), []⟩,
 ⟨7, some 25, .iaddr 2 (.t 23) (.t 24), some (21, true), []⟩,
 ⟨8, some 26, .load (some 2) (.t 25), some (21, true), []⟩,
 ⟨9, some 27, .mv (.t 0), some (21, true), []⟩,
 ⟨10, some 28, .mv (.t 9), some (21, true), []⟩,
 ⟨11, some 29, .bin .sub (.t 28) (.k (.sc (.int .i64 1))), some (21, true), []⟩,
 ⟨12, some 30, .iaddr 2 (.t 27) (.t 29), some (21, true), []⟩,
 ⟨13, some 31, .load (some 2) (.t 30), some (21, true), []⟩,
 ⟨14, some 32, .call true (.t 22) [.t 26, .t 31], some (21, true), []⟩,
 ⟨15, some 33, .bin .lss (.t 32) (.k (.sc (.int .i64 0))), some (21, true), []⟩,
 ⟨16, some 34, .pick (.t 21) (.t 33) (.k (.sc (.bool false))), none, []⟩] true [0, 1, 2, 3, 8, 9, 34])
 (.cond (.t 34)
 (.skip)
 (.exit 2)))
 (.seq (.block 3 (.region 0 [
 ⟨0, some 37, .mv (.t 0), none, []⟩,
 ⟨1, some 38, .mv (.t 9), none, []⟩,
 ⟨2, some 39, .mv (.t 0), none, []⟩,
 ⟨3, some 40, .mv (.t 9), none, []⟩,
 ⟨4, some 41, .bin .sub (.t 40) (.k (.sc (.int .i64 1))), none, []⟩,
 ⟨5, some 42, .mv (.t 0), none, []⟩,
 ⟨6, some 43, .mv (.t 9), none, []⟩,
 ⟨7, some 44, .bin .sub (.t 43) (.k (.sc (.int .i64 1))), none, []⟩,
 ⟨8, some 45, .iaddr 2 (.t 42) (.t 44), none, []⟩,
 ⟨9, some 46, .load (some 2) (.t 45), none, []⟩,
 ⟨10, some 47, .mv (.t 0), none, []⟩,
 ⟨11, some 48, .mv (.t 9), none, []⟩,
 ⟨12, some 49, .iaddr 2 (.t 47) (.t 48), none, []⟩,
 ⟨13, some 50, .load (some 2) (.t 49), none, []⟩,
 ⟨14, some 51, .iaddr 2 (.t 37) (.t 38), none, []⟩,
 ⟨15, none, .store 2 (.t 51) (.t 46), none, []⟩,
 ⟨16, some 52, .iaddr 2 (.t 39) (.t 41), none, []⟩,
 ⟨17, none, .store 2 (.t 52) (.t 50), none, []⟩] true [0, 1, 2, 3, 8, 9]))
 (.region 0 [
 ⟨0, some 35, .mv (.t 9), none, []⟩,
 ⟨1, some 36, .bin .sub (.t 35) (.k (.sc (.int .i64 1))), none, []⟩,
 ⟨2, some 9, .mv (.t 36), none, []⟩] false [0, 1, 2, 3, 8, 9])))
def a2p : AC := .loop [0, 1, 2, 3, 8, 9] a0B
def a0F : AC :=
 (.seq (.seq (.region 0 [
 ⟨0, some 12, .mv (.t 8), none, []⟩,
 ⟨1, some 13, .mv (.t 2), none, []⟩,
 ⟨2, some 14, .bin .lss (.t 12) (.t 13), none, []⟩] false [0, 1, 2, 3, 8, 14])
 (.cond (.t 14)
 (.skip)
 (.exit 0)))
 (.seq (.block 1 (.seq (.region 0 [
 ⟨0, some 17, .mv (.t 8), none, []⟩,
 ⟨1, some 9, .mv (.t 17), none, []⟩] false [0, 1, 2, 3, 8, 9])
 (.block 2 (a2p))))
 (.region 0 [
 ⟨0, some 15, .mv (.t 8), none, []⟩,
 ⟨1, some 16, .bin .add (.t 15) (.k (.sc (.int .i64 1))), none, []⟩,
 ⟨2, some 8, .mv (.t 16), none, []⟩] false [0, 1, 2, 3, 8])))
def a1L : AC := .loop [0, 1, 2, 3, 8] a0F
def a1c : Fn := ⟨4, 53, [],
 (.seq (.region 0 [
 ⟨0, some 10, .mv (.t 1), none, []⟩,
 ⟨1, some 11, .bin .add (.t 10) (.k (.sc (.int .i64 1))), none, []⟩,
 ⟨2, some 8, .mv (.t 11), none, []⟩] false [0, 1, 2, 3, 8])
 (.block 0 (a1L))), false⟩
def a0P : Fn := ⟨1, 25, [(2, none)],
 (.seq (.region 0 [
 ⟨0, some 2, .mv (.k (.sc (.int .i64 0))), none, []⟩] false [0, 2])
 (.seq (.seq (.region 0 [
 ⟨0, some 3, .mv (.t 0), none, []⟩,
 ⟨1, some 4, .bin .geq (.t 3) (.k (.sc (.int .u64 4294967296))), none, []⟩] false [0, 2, 4])
 (.cond (.t 4)
 (.seq (.region 0 [
 ⟨0, some 5, .mv (.t 0), none, []⟩,
 ⟨1, some 6, .bin .shr (.t 5) (.k (.sc (.int .u64 32))), none, []⟩,
 ⟨2, some 0, .mv (.t 6), none, []⟩] false [0])
 (.region 0 [
 ⟨0, some 2, .mv (.k (.sc (.int .i64 32))), none, []⟩] false [0, 2]))
 (.skip)))
 (.seq (.seq (.region 0 [
 ⟨0, some 7, .mv (.t 0), none, []⟩,
 ⟨1, some 8, .bin .geq (.t 7) (.k (.sc (.int .u64 65536))), none, []⟩] false [0, 2, 8])
 (.cond (.t 8)
 (.seq (.region 0 [
 ⟨0, some 9, .mv (.t 0), none, []⟩,
 ⟨1, some 10, .bin .shr (.t 9) (.k (.sc (.int .u64 16))), none, []⟩,
 ⟨2, some 0, .mv (.t 10), none, []⟩] false [0, 2])
 (.region 0 [
 ⟨0, some 11, .mv (.t 2), none, []⟩,
 ⟨1, some 12, .bin .add (.t 11) (.k (.sc (.int .i64 16))), none, []⟩,
 ⟨2, some 2, .mv (.t 12), none, []⟩] false [0, 2]))
 (.skip)))
 (.seq (.seq (.region 0 [
 ⟨0, some 13, .mv (.t 0), none, []⟩,
 ⟨1, some 14, .bin .geq (.t 13) (.k (.sc (.int .u64 256))), none, []⟩] false [0, 2, 14])
 (.cond (.t 14)
 (.seq (.region 0 [
 ⟨0, some 15, .mv (.t 0), none, []⟩,
 ⟨1, some 16, .bin .shr (.t 15) (.k (.sc (.int .u64 8))), none, []⟩,
 ⟨2, some 0, .mv (.t 16), none, []⟩] false [0, 2])
 (.region 0 [
 ⟨0, some 17, .mv (.t 2), none, []⟩,
 ⟨1, some 18, .bin .add (.t 17) (.k (.sc (.int .i64 8))), none, []⟩,
 ⟨2, some 2, .mv (.t 18), none, []⟩] false [0, 2]))
 (.skip)))
 (.seq (.region 0 [
 ⟨0, some 19, .mv (.t 2), none, []⟩,
 ⟨1, some 20, .mv (.t 0), none, []⟩,
 ⟨2, some 21, .conv .u8 (.t 20), none, []⟩,
 ⟨3, some 22, .istr (.k (.sc (.str ⟨#[0, 1, 2, 2, 3, 3, 3, 3, 4, 4, 4, 4, 4, 4, 4, 4, 5, 5, 5, 5, 5, 5, 5, 5, 5, 5, 5, 5, 5, 5, 5, 5, 6, 6, 6, 6, 6, 6, 6, 6, 6, 6, 6, 6, 6, 6, 6, 6, 6, 6, 6, 6, 6, 6, 6, 6, 6, 6, 6, 6, 6, 6, 6, 6, 7, 7, 7, 7, 7, 7, 7, 7, 7, 7, 7, 7, 7, 7, 7, 7, 7, 7, 7, 7, 7, 7, 7, 7, 7, 7, 7, 7, 7, 7, 7, 7, 7, 7, 7, 7, 7, 7, 7, 7, 7, 7, 7, 7, 7, 7, 7, 7, 7, 7, 7, 7, 7, 7, 7, 7, 7, 7, 7, 7, 7, 7, 7, 7, 8, 8, 8, 8, 8, 8, 8, 8, 8, 8, 8, 8, 8, 8, 8, 8, 8, 8, 8, 8, 8, 8, 8, 8, 8, 8, 8, 8, 8, 8, 8, 8, 8, 8, 8, 8, 8, 8, 8, 8, 8, 8, 8, 8, 8, 8, 8, 8, 8, 8, 8, 8, 8, 8, 8, 8, 8, 8, 8, 8, 8, 8, 8, 8, 8, 8, 8, 8, 8, 8, 8, 8, 8, 8, 8, 8, 8, 8, 8, 8, 8, 8, 8, 8, 8, 8, 8, 8, 8, 8, 8, 8, 8, 8, 8, 8, 8, 8, 8, 8, 8, 8, 8, 8, 8, 8, 8, 8, 8, 8, 8, 8, 8, 8, 8, 8, 8, 8, 8, 8, 8, 8, 8, 8, 8, 8, 8, 8]⟩))) (.t 21), none, []⟩,
 ⟨4, some 23, .conv .i64 (.t 22), none, []⟩,
 ⟨5, some 24, .bin .add (.t 19) (.t 23), none, []⟩,
 ⟨6, some 2, .mv (.t 24), none, []⟩] false [2])
 (.ret)))))), false⟩
def a2R : AC :=
 (.seq (.region 0 [
 ⟨0, some 9, .bin .lss (.t 8) (.t 7), none, []⟩] false [0, 1, 7, 8, 9])
 (.seq (.cond (.t 9)
 (.skip)
 (.exit 0))
 (.seq (.block 1 (.seq (.region 0 [
 ⟨0, some 10, .mv (.t 8), none, []⟩,
 ⟨1, some 5, .mv (.t 10), none, []⟩] false [0, 1, 5, 7, 8])
 (.seq (.region 0 [
 ⟨0, some 11, .mv (.t 1), none, []⟩,
 ⟨1, some 12, .mv (.t 0), none, []⟩,
 ⟨2, some 13, .mv (.t 5), none, []⟩,
 ⟨3, some 14, .iaddr 1 (.t 12) (.t 13), none, []⟩,
 ⟨4, some 15, .load none (.t 14), none, []⟩,
 ⟨5, some 16, .bin .eql (.t 11) (.t 15), none, []⟩] false [0, 1, 5, 7, 8, 16])
 (.cond (.t 16)
 (.seq (.region 0 [
 ⟨0, some 17, .mv (.t 5), none, []⟩,
 ⟨1, some 4, .mv (.t 17), none, []⟩] false [4])
 (.ret))
 (.skip)))))
 (.region 0 [
 ⟨0, some 18, .bin .add (.t 8) (.k (.sc (.int .i64 1))), none, []⟩,
 ⟨1, some 8, .mv (.t 18), none, []⟩] false [0, 1, 7, 8]))))
def a8d : AC := .loop [0, 1, 7, 8] a2R
def a3r : Fn := ⟨2, 19, [(4, none)],
 (.seq (.region 0 [
 ⟨0, some 4, .mv (.k (.sc (.int .i64 0))), none, []⟩] false [0, 1])
 (.seq (.seq (.region 0 [
 ⟨0, some 6, .mv (.t 0), none, []⟩,
 ⟨1, some 7, .len 1 (.t 6), none, []⟩,
 ⟨2, some 8, .mv (.k (.sc (.int .i64 0))), none, []⟩] false [0, 1, 7, 8])
 (.block 0 (a8d)))
 (.seq (.region 0 [
 ⟨0, some 4, .mv (.k (.sc (.int .i64 (-1)))), none, []⟩] false [4])
 (.ret)))), false⟩
def a4g : Fn := ⟨3, 8, [(6, none)],
 (.seq (.region 2 [
 ⟨0, some 3, .box 0 (.t 0), none, []⟩,
 ⟨1, some 5, .box 1 (.t 2), none, []⟩,
 ⟨2, some 6, .mv (.k (.sc (.int .i64 0))), none, []⟩] false [1])
 (.seq (.region 0 [
 ⟨0, some 7, .mv (.t 1), none, []⟩,
 ⟨1, some 6, .mv (.t 7), none, []⟩] false [6])
 (.ret))), false⟩
def a3n : Fn := ⟨3, 24, [(6, none)],
 (.seq (.region 2 [
 ⟨0, some 3, .box 0 (.t 0), none, []⟩,
 ⟨1, some 5, .box 1 (.t 2), none, []⟩,
 ⟨2, some 6, .mv (.k (.sc (.int .i64 0))), none, []⟩] false [1, 3, 5])
 (.seq (.seq (.region 0 [
 ⟨0, some 7, .load (some 3) (.t 3), none, []⟩,
 ⟨1, some 8, .call true (.f 197) [], none, []⟩,
 ⟨2, some 9, .eqf false ⟨true, [1, 1, 1]⟩ (.t 7) (.t 8), none, []⟩] true [1, 3, 5, 9])
 (.cond (.t 9)
 (.seq (.region 0 [
 ⟨0, some 10, .mv (.t 1), none, []⟩,
 ⟨1, some 6, .mv (.t 10), none, []⟩] false [6])
 (.ret))
 (.skip)))
 (.seq (.region 0 [
 ⟨0, some 11, .mv (.t 1), none, []⟩,
 ⟨1, some 12, .faddr 0 (.t 5), none, []⟩,
 ⟨2, some 13, .load none (.t 12), none, []⟩,
 ⟨3, some 14, .iarr 3 1 (.t 3) (.k (.sc (.int .i64 0))), none, []⟩,
 ⟨4, some 15, .load none (.t 14), none, []⟩,
 ⟨5, some 16, .bin .mul (.t 13) (.t 15), none, []⟩,
 ⟨6, some 17, .bin .sub (.t 11) (.t 16), none, []⟩,
 ⟨7, some 18, .faddr 1 (.t 5), none, []⟩,
 ⟨8, some 19, .load none (.t 18), none, []⟩,
 ⟨9, some 20, .iarr 3 1 (.t 3) (.k (.sc (.int .i64 1))), none, []⟩,
 ⟨10, some 21, .load none (.t 20), none, []⟩,
 ⟨11, some 22, .bin .mul (.t 19) (.t 21), none, []⟩,
 ⟨12, some 23, .bin .sub (.t 17) (.t 22), none, []⟩,
 ⟨13, some 6, .mv (.t 23), none, []⟩] false [6])
 (.ret)))), false⟩
def a1a : Fn := ⟨1, 8, [(2, none)],
 (.seq (.region 0 [
 ⟨0, some 2, .mv (.k (.sc (.sl .nil 2 []))), none, []⟩] false [0])
 (.seq (.seq (.region 0 [
 ⟨0, some 3, .mv (.t 0), none, []⟩,
 ⟨1, some 4, .isnil 0 false (.t 3), none, []⟩] false [0, 4])
 (.cond (.t 4)
 (.seq (.region 0 [
 ⟨0, some 2, .mv (.k (.sc (.sl .nil 2 []))), none, []⟩] false [2])
 (.ret))
 (.skip)))
 (.seq (.region 1 [
 ⟨0, some 5, .bslice 2 0 [.int .i64 0, .int .i64 0] [], none, []⟩,
 ⟨1, some 6, .mv (.t 0), none, []⟩,
 ⟨2, some 7, .appendM 0 2 (.t 5) (.t 6), none, []⟩,
 ⟨3, some 2, .mv (.tk 7), none, []⟩] false [2])
 (.ret)))), true⟩
end Go.Pm.Ac

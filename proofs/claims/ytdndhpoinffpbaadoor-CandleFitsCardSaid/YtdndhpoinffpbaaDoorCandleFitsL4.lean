/- The statement CandleFits, part 4. -/
import Derived.Test.YtdndhpoinffpbaaDoorW3
import Derived.Test.YtdndhpoinffpbaaDoorProg
set_option linter.all false
namespace Go.Pm.Ac
open Go.Pm
set_option maxRecDepth 100000

def decanilaw06_CandleFits : Fn := ⟨2, 52, [(4, none)],
 (.seq (.region 2 [
 ⟨0, some 2, .box 0 (.t 0), none, []⟩,
 ⟨1, some 3, .box 1 (.t 1), none, []⟩,
 ⟨2, some 4, .mv (.k (.sc (.bool false))), none, []⟩] false [2, 3])
 (.seq (.region 0 [
 ⟨0, some 12, .load (some 11) (.t 2), none, []⟩,
 ⟨1, some 13, .load (some 4) (.t 3), none, []⟩,
 ⟨2, some 14, .call true (.f 19) [.t 12, .t 13], none, []⟩,
 ⟨3, some 11, .mv (.t 14), none, []⟩,
 ⟨4, some 15, .ext (.t 11) 0, none, []⟩,
 ⟨5, some 16, .ext (.t 11) 1, none, []⟩,
 ⟨6, some 5, .mv (.t 15), none, []⟩,
 ⟨7, some 6, .mv (.t 16), none, []⟩] false [2, 3, 5, 6])
 (.seq (.region 0 [
 ⟨0, some 18, .load (some 11) (.t 2), none, []⟩,
 ⟨1, some 19, .load (some 4) (.t 3), none, []⟩,
 ⟨2, some 20, .call true (.f 20) [.t 18, .t 19], none, []⟩,
 ⟨3, some 17, .mv (.t 20), none, []⟩,
 ⟨4, some 21, .ext (.t 17) 0, none, []⟩,
 ⟨5, some 22, .ext (.t 17) 1, none, []⟩,
 ⟨6, some 7, .mv (.t 21), none, []⟩,
 ⟨7, some 8, .mv (.t 22), none, []⟩] false [2, 5, 6, 7, 8])
 (.seq (.seq (.region 0 [
 ⟨0, some 23, .mv (.t 5), none, []⟩,
 ⟨1, some 24, .mv (.t 7), none, []⟩,
 ⟨2, some 25, .eqf true ⟨false, [0]⟩ (.t 23) (.t 24), none, []⟩,
 ⟨3, some 26, .mv (.t 25), none, []⟩,
 ⟨4, some 27, .mv (.t 6), some (26, false), []⟩,
 ⟨5, some 28, .mv (.t 8), some (26, false), []⟩,
 ⟨6, some 29, .bin .neq (.t 27) (.t 28), some (26, false), []⟩,
 ⟨7, some 30, .pick (.t 26) (.k (.sc (.bool true))) (.t 29), none, []⟩] false [2, 30])
 (.cond (.t 30)
 (.seq (.region 0 [
 ⟨0, some 4, .mv (.k (.sc (.bool false))), none, []⟩] false [4])
 (.ret))
 (.skip)))
 (.seq (.region 0 [
 ⟨0, some 32, .load (some 11) (.t 2), none, []⟩,
 ⟨1, some 33, .call true (.f 21) [.t 32], none, []⟩,
 ⟨2, some 31, .mv (.t 33), none, []⟩,
 ⟨3, some 34, .ext (.t 31) 0, none, []⟩,
 ⟨4, some 35, .ext (.t 31) 1, none, []⟩,
 ⟨5, some 9, .mv (.t 34), none, []⟩,
 ⟨6, some 6, .mv (.t 35), none, []⟩] false [2, 6, 9])
 (.seq (.region 0 [
 ⟨0, some 37, .load (some 11) (.t 2), none, []⟩,
 ⟨1, some 38, .call true (.f 22) [.t 37], none, []⟩,
 ⟨2, some 36, .mv (.t 38), none, []⟩,
 ⟨3, some 39, .ext (.t 36) 0, none, []⟩,
 ⟨4, some 40, .ext (.t 36) 1, none, []⟩,
 ⟨5, some 10, .mv (.t 39), none, []⟩,
 ⟨6, some 8, .mv (.t 40), none, []⟩] false [6, 8, 9, 10])
 (.seq (.region 0 [
 ⟨0, some 41, .mv (.t 9), none, []⟩,
 ⟨1, some 42, .mv (.t 10), none, []⟩,
 ⟨2, some 43, .call true (.f 23) [.t 41, .t 42], none, []⟩,
 ⟨3, some 44, .mv (.t 43), none, []⟩,
 ⟨4, some 45, .mv (.t 6), some (44, true), []⟩,
 ⟨5, some 46, .mv (.t 8), some (44, true), []⟩,
 ⟨6, some 47, .bin .eql (.t 45) (.t 46), some (44, true), []⟩,
 ⟨7, some 48, .pick (.t 44) (.t 47) (.k (.sc (.bool false))), none, []⟩,
 ⟨8, some 49, .mv (.t 48), none, []⟩,
 ⟨9, some 50, .call true (.f 12) [], some (49, true), []⟩,
 ⟨10, some 51, .pick (.t 49) (.t 50) (.k (.sc (.bool false))), none, []⟩,
 ⟨11, some 4, .mv (.t 51), none, []⟩] false [4])
 (.ret)))))))), false⟩

def candle_Right : Fn := ⟨1, 15, [(2, none), (3, none)],
 (.seq (.region 1 [
 ⟨0, some 1, .box 0 (.t 0), none, []⟩,
 ⟨1, some 2, .mv (.k (.sc (.bool false))), none, []⟩,
 ⟨2, some 3, .mv (.k (.sc (.int .i64 0))), none, []⟩] false [1])
 (.seq (.seq (.region 0 [
 ⟨0, some 5, .load (some 11) (.t 1), none, []⟩,
 ⟨1, some 6, .call true (.f 4) [.t 5], none, []⟩,
 ⟨2, some 4, .mv (.t 6), none, []⟩] false [1, 4])
 (.seq (.region 0 [
 ⟨0, some 7, .mv (.t 4), none, []⟩,
 ⟨1, some 8, .bin .neq (.t 7) (.k (.sc (.int .i64 0))), none, []⟩] false [1, 4, 8])
 (.cond (.t 8)
 (.seq (.region 0 [
 ⟨0, some 9, .mv (.t 4), none, []⟩,
 ⟨1, some 2, .mv (.k (.sc (.bool false))), none, []⟩,
 ⟨2, some 3, .mv (.t 9), none, []⟩] false [2, 3])
 (.ret))
 (.skip))))
 (.seq (.region 0 [
 ⟨0, some 10, .load (some 11) (.t 1), none, []⟩,
 ⟨1, some 11, .call true (.f 42) [.t 10, .k (.sc (.sl .nil 1 []))], none, []⟩,
 ⟨2, some 12, .field 12 none (.t 11), none, []⟩,
 ⟨3, some 13, .len 1 (.t 12), none, []⟩,
 ⟨4, some 14, .bin .gtr (.t 13) (.k (.sc (.int .i64 0))), none, []⟩,
 ⟨5, some 2, .mv (.t 14), none, []⟩,
 ⟨6, some 3, .mv (.k (.sc (.int .i64 0))), none, []⟩] false [2, 3])
 (.ret)))), false⟩

def candle_Check_B0 : AC :=
 (.seq (.region 0 [
 ⟨0, some 30, .bin .lss (.t 29) (.k (.sc (.int .i64 2))), none, []⟩] false [1, 3, 29, 30])
 (.seq (.cond (.t 30)
 (.skip)
 (.exit 0))
 (.seq (.block 1 (.seq (.region 0 [
 ⟨0, some 31, .mv (.t 29), none, []⟩,
 ⟨1, some 4, .mv (.t 31), none, []⟩] false [1, 3, 4, 29])
 (.region 0 [
 ⟨0, some 32, .mv (.t 3), none, []⟩,
 ⟨1, some 33, .mv (.t 32), none, []⟩,
 ⟨2, some 34, .mv (.t 4), some (33, true), []⟩,
 ⟨3, some 35, .faddr 0 (.t 1), some (33, true), []⟩,
 ⟨4, some 36, .iarr 2 2 (.t 35) (.t 34), some (33, true), []⟩,
 ⟨5, some 37, .load (some 2) (.t 36), some (33, true), []⟩,
 ⟨6, some 38, .call true (.f 45) [.t 37, .k (.sc (.int .i64 0)), .k (.sc (.int .i64 60)), .k (.sc (.int .i64 2))], some (33, true), []⟩,
 ⟨7, some 39, .pick (.t 33) (.t 38) (.k (.sc (.bool false))), none, []⟩,
 ⟨8, some 40, .mv (.t 39), none, []⟩,
 ⟨9, some 41, .mv (.t 4), some (40, true), []⟩,
 ⟨10, some 42, .faddr 4 (.t 1), some (40, true), []⟩,
 ⟨11, some 43, .iarr 2 2 (.t 42) (.t 41), some (40, true), []⟩,
 ⟨12, some 44, .load (some 2) (.t 43), some (40, true), []⟩,
 ⟨13, some 45, .call true (.f 45) [.t 44, .k (.sc (.int .i64 1)), .k (.sc (.int .i64 6)), .k (.sc (.int .i64 1))], some (40, true), []⟩,
 ⟨14, some 46, .pick (.t 40) (.t 45) (.k (.sc (.bool false))), none, []⟩,
 ⟨15, some 3, .mv (.t 46), none, []⟩] false [1, 3, 29])))
 (.region 0 [
 ⟨0, some 47, .bin .add (.t 29) (.k (.sc (.int .i64 1))), none, []⟩,
 ⟨1, some 29, .mv (.t 47), none, []⟩] false [1, 3, 29]))))
def candle_Check_L0 : AC := .loop [1, 3, 29] candle_Check_B0
def candle_Check_B2 : AC :=
 (.seq (.region 0 [
 ⟨0, some 69, .bin .lss (.t 68) (.k (.sc (.int .i64 2))), none, []⟩] false [1, 3, 49, 50, 51, 67, 68, 69])
 (.seq (.cond (.t 69)
 (.skip)
 (.exit 4))
 (.seq (.block 5 (.seq (.region 0 [
 ⟨0, some 70, .index 2 1 none (.t 67) (.t 68), none, []⟩,
 ⟨1, some 8, .mv (.t 70), none, []⟩] false [1, 3, 8, 49, 50, 51, 67, 68])
 (.region 0 [
 ⟨0, some 71, .mv (.t 3), none, []⟩,
 ⟨1, some 72, .mv (.t 71), none, []⟩,
 ⟨2, some 73, .mv (.t 8), some (72, true), []⟩,
 ⟨3, some 74, .call true (.f 44) [.t 73, .k (.sc (.int .i64 0)), .k (.sc (.int .i64 9))], some (72, true), []⟩,
 ⟨4, some 75, .pick (.t 72) (.t 74) (.k (.sc (.bool false))), none, []⟩,
 ⟨5, some 3, .mv (.t 75), none, []⟩] false [1, 3, 49, 50, 51, 67, 68])))
 (.region 0 [
 ⟨0, some 76, .bin .add (.t 68) (.k (.sc (.int .i64 1))), none, []⟩,
 ⟨1, some 68, .mv (.t 76), none, []⟩] false [1, 3, 49, 50, 51, 67, 68]))))
def candle_Check_L2 : AC := .loop [1, 3, 49, 50, 51, 67, 68] candle_Check_B2
def candle_Check_B1 : AC :=
 (.seq (.region 0 [
 ⟨0, some 52, .bin .lss (.t 51) (.t 50), none, []⟩] false [1, 3, 49, 50, 51, 52])
 (.seq (.cond (.t 52)
 (.skip)
 (.exit 2))
 (.seq (.block 3 (.seq (.region 1 [
 ⟨0, some 53, .iaddr 5 (.t 49) (.t 51), none, []⟩,
 ⟨1, some 54, .load (some 5) (.t 53), none, []⟩,
 ⟨2, some 6, .alloc 0 [.int .i64 0, .int .i64 0, .int .i64 0, .int .i64 0, .int .i64 0], none, []⟩,
 ⟨3, none, .store 5 (.t 6) (.t 54), none, []⟩] false [1, 3, 6, 49, 50, 51])
 (.seq (.region 0 [
 ⟨0, some 55, .mv (.t 3), none, []⟩,
 ⟨1, some 56, .mv (.t 55), none, []⟩,
 ⟨2, some 57, .faddr 0 (.t 6), some (56, true), []⟩,
 ⟨3, some 58, .load none (.t 57), some (56, true), []⟩,
 ⟨4, some 59, .call true (.f 44) [.t 58, .k (.sc (.int .i64 0)), .k (.sc (.int .i64 6))], some (56, true), []⟩,
 ⟨5, some 60, .pick (.t 56) (.t 59) (.k (.sc (.bool false))), none, []⟩,
 ⟨6, some 61, .mv (.t 60), none, []⟩,
 ⟨7, some 62, .faddr 1 (.t 6), some (61, true), []⟩,
 ⟨8, some 63, .load (some 2) (.t 62), some (61, true), []⟩,
 ⟨9, some 64, .call true (.f 45) [.t 63, .k (.sc (.int .i64 0)), .k (.sc (.int .i64 6)), .k (.sc (.int .i64 2))], some (61, true), []⟩,
 ⟨10, some 65, .pick (.t 61) (.t 64) (.k (.sc (.bool false))), none, []⟩,
 ⟨11, some 3, .mv (.t 65), none, []⟩] false [1, 3, 6, 49, 50, 51])
 (.seq (.region 0 [
 ⟨0, some 66, .faddr 3 (.t 6), none, []⟩,
 ⟨1, some 67, .load (some 2) (.t 66), none, []⟩,
 ⟨2, some 68, .mv (.k (.sc (.int .i64 0))), none, []⟩] false [1, 3, 49, 50, 51, 67, 68])
 (.block 4 (candle_Check_L2))))))
 (.region 0 [
 ⟨0, some 77, .bin .add (.t 51) (.k (.sc (.int .i64 1))), none, []⟩,
 ⟨1, some 51, .mv (.t 77), none, []⟩] false [1, 3, 49, 50, 51]))))
def candle_Check_L1 : AC := .loop [1, 3, 49, 50, 51] candle_Check_B1
def candle_Check_B3 : AC :=
 (.seq (.region 0 [
 ⟨0, some 82, .bin .lss (.t 81) (.t 80), none, []⟩] false [1, 3, 79, 80, 81, 82])
 (.seq (.cond (.t 82)
 (.skip)
 (.exit 6))
 (.seq (.block 7 (.seq (.region 1 [
 ⟨0, some 83, .iaddr 3 (.t 79) (.t 81), none, []⟩,
 ⟨1, some 84, .load (some 3) (.t 83), none, []⟩,
 ⟨2, some 10, .alloc 0 [.int .i64 0, .int .i64 0, .int .i64 0], none, []⟩,
 ⟨3, none, .store 3 (.t 10) (.t 84), none, []⟩] false [1, 3, 10, 79, 80, 81])
 (.region 0 [
 ⟨0, some 85, .mv (.t 3), none, []⟩,
 ⟨1, some 86, .mv (.t 85), none, []⟩,
 ⟨2, some 87, .load (some 11) (.t 1), some (86, true), []⟩,
 ⟨3, some 88, .faddr 0 (.t 10), some (86, true), []⟩,
 ⟨4, some 89, .load none (.t 88), some (86, true), []⟩,
 ⟨5, some 90, .call true (.f 46) [.t 87, .t 89], some (86, true), []⟩,
 ⟨6, some 91, .pick (.t 86) (.t 90) (.k (.sc (.bool false))), none, []⟩,
 ⟨7, some 92, .mv (.t 91), none, []⟩,
 ⟨8, some 93, .faddr 1 (.t 10), some (92, true), []⟩,
 ⟨9, some 94, .load none (.t 93), some (92, true), []⟩,
 ⟨10, some 95, .call true (.f 47) [.t 94], some (92, true), []⟩,
 ⟨11, some 96, .pick (.t 92) (.t 95) (.k (.sc (.bool false))), none, []⟩,
 ⟨12, some 97, .mv (.t 96), none, []⟩,
 ⟨13, some 98, .faddr 2 (.t 10), some (97, true), []⟩,
 ⟨14, some 99, .load none (.t 98), some (97, true), []⟩,
 ⟨15, some 100, .call true (.f 44) [.t 99, .k (.sc (.int .i64 0)), .k (.sc (.int .i64 60))], some (97, true), []⟩,
 ⟨16, some 101, .pick (.t 97) (.t 100) (.k (.sc (.bool false))), none, []⟩,
 ⟨17, some 3, .mv (.t 101), none, []⟩] false [1, 3, 79, 80, 81])))
 (.region 0 [
 ⟨0, some 102, .bin .add (.t 81) (.k (.sc (.int .i64 1))), none, []⟩,
 ⟨1, some 81, .mv (.t 102), none, []⟩] false [1, 3, 79, 80, 81]))))
def candle_Check_L3 : AC := .loop [1, 3, 79, 80, 81] candle_Check_B3
def candle_Check_B4 : AC :=
 (.seq (.region 0 [
 ⟨0, some 107, .bin .lss (.t 106) (.t 105), none, []⟩] false [1, 3, 104, 105, 106, 107])
 (.seq (.cond (.t 107)
 (.skip)
 (.exit 8))
 (.seq (.block 9 (.seq (.region 1 [
 ⟨0, some 108, .iaddr 4 (.t 104) (.t 106), none, []⟩,
 ⟨1, some 109, .load (some 4) (.t 108), none, []⟩,
 ⟨2, some 12, .alloc 0 [.int .i64 0, .int .i64 0, .int .i64 0, .int .i64 0], none, []⟩,
 ⟨3, none, .store 4 (.t 12) (.t 109), none, []⟩] false [1, 3, 12, 104, 105, 106])
 (.region 0 [
 ⟨0, some 110, .mv (.t 3), none, []⟩,
 ⟨1, some 111, .mv (.t 110), none, []⟩,
 ⟨2, some 112, .load (some 11) (.t 1), some (111, true), []⟩,
 ⟨3, some 113, .load (some 4) (.t 12), some (111, true), []⟩,
 ⟨4, some 114, .call true (.f 48) [.t 112, .t 113], some (111, true), []⟩,
 ⟨5, some 115, .pick (.t 111) (.t 114) (.k (.sc (.bool false))), none, []⟩,
 ⟨6, some 3, .mv (.t 115), none, []⟩] false [1, 3, 104, 105, 106])))
 (.region 0 [
 ⟨0, some 116, .bin .add (.t 106) (.k (.sc (.int .i64 1))), none, []⟩,
 ⟨1, some 106, .mv (.t 116), none, []⟩] false [1, 3, 104, 105, 106]))))
def candle_Check_L4 : AC := .loop [1, 3, 104, 105, 106] candle_Check_B4
def candle_Check : Fn := ⟨1, 119, [(2, none)],
 (.seq (.region 1 [
 ⟨0, some 1, .box 0 (.t 0), none, []⟩,
 ⟨1, some 2, .mv (.k (.sc (.int .i64 0))), none, []⟩] false [1])
 (.seq (.region 0 [
 ⟨0, some 13, .faddr 8 (.t 1), none, []⟩,
 ⟨1, some 14, .load none (.t 13), none, []⟩,
 ⟨2, some 15, .len 1 (.t 14), none, []⟩,
 ⟨3, some 16, .call true (.f 44) [.t 15, .k (.sc (.int .i64 1)), .k (.sc (.int .i64 5))], none, []⟩,
 ⟨4, some 17, .mv (.t 16), none, []⟩,
 ⟨5, some 18, .faddr 9 (.t 1), some (17, true), []⟩,
 ⟨6, some 19, .load none (.t 18), some (17, true), []⟩,
 ⟨7, some 20, .len 1 (.t 19), some (17, true), []⟩,
 ⟨8, some 21, .bin .leq (.t 20) (.k (.sc (.int .i64 4))), some (17, true), []⟩,
 ⟨9, some 22, .pick (.t 17) (.t 21) (.k (.sc (.bool false))), none, []⟩,
 ⟨10, some 23, .mv (.t 22), none, []⟩,
 ⟨11, some 24, .faddr 10 (.t 1), some (23, true), []⟩,
 ⟨12, some 25, .load none (.t 24), some (23, true), []⟩,
 ⟨13, some 26, .len 1 (.t 25), some (23, true), []⟩,
 ⟨14, some 27, .bin .leq (.t 26) (.k (.sc (.int .i64 5))), some (23, true), []⟩,
 ⟨15, some 28, .pick (.t 23) (.t 27) (.k (.sc (.bool false))), none, []⟩,
 ⟨16, some 3, .mv (.t 28), none, []⟩] false [1, 3])
 (.seq (.seq (.region 0 [
 ⟨0, some 29, .mv (.k (.sc (.int .i64 0))), none, []⟩] false [1, 3, 29])
 (.block 0 (candle_Check_L0)))
 (.seq (.seq (.region 0 [
 ⟨0, some 48, .faddr 8 (.t 1), none, []⟩,
 ⟨1, some 49, .load none (.t 48), none, []⟩,
 ⟨2, some 50, .len 1 (.t 49), none, []⟩,
 ⟨3, some 51, .mv (.k (.sc (.int .i64 0))), none, []⟩] false [1, 3, 49, 50, 51])
 (.block 2 (candle_Check_L1)))
 (.seq (.seq (.region 0 [
 ⟨0, some 78, .faddr 9 (.t 1), none, []⟩,
 ⟨1, some 79, .load none (.t 78), none, []⟩,
 ⟨2, some 80, .len 1 (.t 79), none, []⟩,
 ⟨3, some 81, .mv (.k (.sc (.int .i64 0))), none, []⟩] false [1, 3, 79, 80, 81])
 (.block 6 (candle_Check_L3)))
 (.seq (.seq (.region 0 [
 ⟨0, some 103, .faddr 10 (.t 1), none, []⟩,
 ⟨1, some 104, .load none (.t 103), none, []⟩,
 ⟨2, some 105, .len 1 (.t 104), none, []⟩,
 ⟨3, some 106, .mv (.k (.sc (.int .i64 0))), none, []⟩] false [1, 3, 104, 105, 106])
 (.block 8 (candle_Check_L4)))
 (.seq (.seq (.region 0 [
 ⟨0, some 117, .mv (.t 3), none, []⟩,
 ⟨1, some 118, .un .not (.t 117), none, []⟩] false [118])
 (.cond (.t 118)
 (.seq (.region 0 [
 ⟨0, some 2, .mv (.k (.sc (.int .i64 60))), none, []⟩] false [2])
 (.ret))
 (.skip)))
 (.seq (.region 0 [
 ⟨0, some 2, .mv (.k (.sc (.int .i64 0))), none, []⟩] false [2])
 (.ret))))))))), false⟩

def decaniref06_Check_B0 : AC :=
 (.seq (.seq (.region 0 [
 ⟨0, some 26, .mv (.t 3), none, []⟩,
 ⟨1, some 27, .mv (.t 26), none, []⟩,
 ⟨2, some 28, .mv (.t 4), some (27, true), []⟩,
 ⟨3, some 29, .bin .lss (.t 28) (.k (.sc (.int .i64 2))), some (27, true), []⟩,
 ⟨4, some 30, .pick (.t 27) (.t 29) (.k (.sc (.bool false))), none, []⟩] false [1, 3, 4, 30])
 (.cond (.t 30)
 (.skip)
 (.exit 0)))
 (.seq (.block 1 (.region 0 [
 ⟨0, some 33, .mv (.t 4), none, []⟩,
 ⟨1, some 34, .faddr 0 (.t 1), none, []⟩,
 ⟨2, some 35, .iarr 2 2 (.t 34) (.t 33), none, []⟩,
 ⟨3, some 36, .load (some 2) (.t 35), none, []⟩,
 ⟨4, some 37, .call true (.f 49) [.t 36, .k (.sc (.int .i64 0)), .k (.sc (.int .i64 60)), .k (.sc (.int .i64 2))], none, []⟩,
 ⟨5, some 38, .mv (.t 37), none, []⟩,
 ⟨6, some 39, .mv (.t 4), some (38, true), []⟩,
 ⟨7, some 40, .faddr 4 (.t 1), some (38, true), []⟩,
 ⟨8, some 41, .iarr 2 2 (.t 40) (.t 39), some (38, true), []⟩,
 ⟨9, some 42, .load (some 2) (.t 41), some (38, true), []⟩,
 ⟨10, some 43, .call true (.f 49) [.t 42, .k (.sc (.int .i64 1)), .k (.sc (.int .i64 6)), .k (.sc (.int .i64 1))], some (38, true), []⟩,
 ⟨11, some 44, .pick (.t 38) (.t 43) (.k (.sc (.bool false))), none, []⟩,
 ⟨12, some 3, .mv (.t 44), none, []⟩] false [1, 3, 4]))
 (.region 0 [
 ⟨0, some 31, .mv (.t 4), none, []⟩,
 ⟨1, some 32, .bin .add (.t 31) (.k (.sc (.int .i64 1))), none, []⟩,
 ⟨2, some 4, .mv (.t 32), none, []⟩] false [1, 3, 4])))
def decaniref06_Check_L0 : AC := .loop [1, 3, 4] decaniref06_Check_B0
def decaniref06_Check_B1 : AC :=
 (.seq (.seq (.region 0 [
 ⟨0, some 45, .mv (.t 3), none, []⟩,
 ⟨1, some 46, .mv (.t 45), none, []⟩,
 ⟨2, some 47, .mv (.t 5), some (46, true), []⟩,
 ⟨3, some 48, .faddr 8 (.t 1), some (46, true), []⟩,
 ⟨4, some 49, .load none (.t 48), some (46, true), []⟩,
 ⟨5, some 50, .len 1 (.t 49), some (46, true), []⟩,
 ⟨6, some 51, .bin .lss (.t 47) (.t 50), some (46, true), []⟩,
 ⟨7, some 52, .pick (.t 46) (.t 51) (.k (.sc (.bool false))), none, []⟩] false [1, 3, 5, 52])
 (.cond (.t 52)
 (.skip)
 (.exit 2)))
 (.seq (.block 3 (.seq (.region 1 [
 ⟨0, some 55, .faddr 8 (.t 1), none, []⟩,
 ⟨1, some 56, .load none (.t 55), none, []⟩,
 ⟨2, some 57, .mv (.t 5), none, []⟩,
 ⟨3, some 58, .iaddr 5 (.t 56) (.t 57), none, []⟩,
 ⟨4, some 59, .load (some 5) (.t 58), none, []⟩,
 ⟨5, some 6, .alloc 0 [.int .i64 0, .int .i64 0, .int .i64 0, .int .i64 0, .int .i64 0], none, []⟩,
 ⟨6, none, .store 5 (.t 6) (.t 59), none, []⟩] false [1, 5, 6])
 (.region 0 [
 ⟨0, some 60, .faddr 0 (.t 6), none, []⟩,
 ⟨1, some 61, .load none (.t 60), none, []⟩,
 ⟨2, some 62, .call true (.f 29) [.t 61, .k (.sc (.int .i64 0)), .k (.sc (.int .i64 6))], none, []⟩,
 ⟨3, some 63, .mv (.t 62), none, []⟩,
 ⟨4, some 64, .faddr 1 (.t 6), some (63, true), []⟩,
 ⟨5, some 65, .load (some 2) (.t 64), some (63, true), []⟩,
 ⟨6, some 66, .call true (.f 49) [.t 65, .k (.sc (.int .i64 0)), .k (.sc (.int .i64 6)), .k (.sc (.int .i64 2))], some (63, true), []⟩,
 ⟨7, some 67, .pick (.t 63) (.t 66) (.k (.sc (.bool false))), none, []⟩,
 ⟨8, some 68, .mv (.t 67), none, []⟩,
 ⟨9, some 69, .faddr 3 (.t 6), some (68, true), []⟩,
 ⟨10, some 70, .iarr 2 1 (.t 69) (.k (.sc (.int .i64 0))), some (68, true), []⟩,
 ⟨11, some 71, .load none (.t 70), some (68, true), []⟩,
 ⟨12, some 72, .call true (.f 29) [.t 71, .k (.sc (.int .i64 0)), .k (.sc (.int .i64 9))], some (68, true), []⟩,
 ⟨13, some 73, .pick (.t 68) (.t 72) (.k (.sc (.bool false))), none, []⟩,
 ⟨14, some 74, .mv (.t 73), none, []⟩,
 ⟨15, some 75, .faddr 3 (.t 6), some (74, true), []⟩,
 ⟨16, some 76, .iarr 2 1 (.t 75) (.k (.sc (.int .i64 1))), some (74, true), []⟩,
 ⟨17, some 77, .load none (.t 76), some (74, true), []⟩,
 ⟨18, some 78, .call true (.f 29) [.t 77, .k (.sc (.int .i64 0)), .k (.sc (.int .i64 9))], some (74, true), []⟩,
 ⟨19, some 79, .pick (.t 74) (.t 78) (.k (.sc (.bool false))), none, []⟩,
 ⟨20, some 3, .mv (.t 79), none, []⟩] false [1, 3, 5])))
 (.region 0 [
 ⟨0, some 53, .mv (.t 5), none, []⟩,
 ⟨1, some 54, .bin .add (.t 53) (.k (.sc (.int .i64 1))), none, []⟩,
 ⟨2, some 5, .mv (.t 54), none, []⟩] false [1, 3, 5])))
def decaniref06_Check_L1 : AC := .loop [1, 3, 5] decaniref06_Check_B1
def decaniref06_Check_B2 : AC :=
 (.seq (.seq (.region 0 [
 ⟨0, some 80, .mv (.t 3), none, []⟩,
 ⟨1, some 81, .mv (.t 80), none, []⟩,
 ⟨2, some 82, .mv (.t 7), some (81, true), []⟩,
 ⟨3, some 83, .faddr 9 (.t 1), some (81, true), []⟩,
 ⟨4, some 84, .load none (.t 83), some (81, true), []⟩,
 ⟨5, some 85, .len 1 (.t 84), some (81, true), []⟩,
 ⟨6, some 86, .bin .lss (.t 82) (.t 85), some (81, true), []⟩,
 ⟨7, some 87, .pick (.t 81) (.t 86) (.k (.sc (.bool false))), none, []⟩] false [1, 3, 7, 87])
 (.cond (.t 87)
 (.skip)
 (.exit 4)))
 (.seq (.block 5 (.seq (.region 1 [
 ⟨0, some 90, .faddr 9 (.t 1), none, []⟩,
 ⟨1, some 91, .load none (.t 90), none, []⟩,
 ⟨2, some 92, .mv (.t 7), none, []⟩,
 ⟨3, some 93, .iaddr 3 (.t 91) (.t 92), none, []⟩,
 ⟨4, some 94, .load (some 3) (.t 93), none, []⟩,
 ⟨5, some 8, .alloc 0 [.int .i64 0, .int .i64 0, .int .i64 0], none, []⟩,
 ⟨6, none, .store 3 (.t 8) (.t 94), none, []⟩] false [1, 7, 8])
 (.region 0 [
 ⟨0, some 95, .load (some 11) (.t 1), none, []⟩,
 ⟨1, some 96, .faddr 0 (.t 8), none, []⟩,
 ⟨2, some 97, .load none (.t 96), none, []⟩,
 ⟨3, some 98, .call true (.f 50) [.t 95, .t 97], none, []⟩,
 ⟨4, some 99, .mv (.t 98), none, []⟩,
 ⟨5, some 100, .faddr 1 (.t 8), some (99, true), []⟩,
 ⟨6, some 101, .load none (.t 100), some (99, true), []⟩,
 ⟨7, some 102, .call true (.f 51) [.t 101], some (99, true), []⟩,
 ⟨8, some 103, .pick (.t 99) (.t 102) (.k (.sc (.bool false))), none, []⟩,
 ⟨9, some 104, .mv (.t 103), none, []⟩,
 ⟨10, some 105, .faddr 2 (.t 8), some (104, true), []⟩,
 ⟨11, some 106, .load none (.t 105), some (104, true), []⟩,
 ⟨12, some 107, .call true (.f 29) [.t 106, .k (.sc (.int .i64 0)), .k (.sc (.int .i64 60))], some (104, true), []⟩,
 ⟨13, some 108, .pick (.t 104) (.t 107) (.k (.sc (.bool false))), none, []⟩,
 ⟨14, some 3, .mv (.t 108), none, []⟩] false [1, 3, 7])))
 (.region 0 [
 ⟨0, some 88, .mv (.t 7), none, []⟩,
 ⟨1, some 89, .bin .add (.t 88) (.k (.sc (.int .i64 1))), none, []⟩,
 ⟨2, some 7, .mv (.t 89), none, []⟩] false [1, 3, 7])))
def decaniref06_Check_L2 : AC := .loop [1, 3, 7] decaniref06_Check_B2
def decaniref06_Check_B3 : AC :=
 (.seq (.seq (.region 0 [
 ⟨0, some 109, .mv (.t 3), none, []⟩,
 ⟨1, some 110, .mv (.t 109), none, []⟩,
 ⟨2, some 111, .mv (.t 9), some (110, true), []⟩,
 ⟨3, some 112, .faddr 10 (.t 1), some (110, true), []⟩,
 ⟨4, some 113, .load none (.t 112), some (110, true), []⟩,
 ⟨5, some 114, .len 1 (.t 113), some (110, true), []⟩,
 ⟨6, some 115, .bin .lss (.t 111) (.t 114), some (110, true), []⟩,
 ⟨7, some 116, .pick (.t 110) (.t 115) (.k (.sc (.bool false))), none, []⟩] false [1, 3, 9, 116])
 (.cond (.t 116)
 (.skip)
 (.exit 6)))
 (.seq (.block 7 (.region 0 [
 ⟨0, some 119, .load (some 11) (.t 1), none, []⟩,
 ⟨1, some 120, .faddr 10 (.t 1), none, []⟩,
 ⟨2, some 121, .load none (.t 120), none, []⟩,
 ⟨3, some 122, .mv (.t 9), none, []⟩,
 ⟨4, some 123, .iaddr 4 (.t 121) (.t 122), none, []⟩,
 ⟨5, some 124, .load (some 4) (.t 123), none, []⟩,
 ⟨6, some 125, .call true (.f 52) [.t 119, .t 124], none, []⟩,
 ⟨7, some 3, .mv (.t 125), none, []⟩] true [1, 3, 9]))
 (.region 0 [
 ⟨0, some 117, .mv (.t 9), none, []⟩,
 ⟨1, some 118, .bin .add (.t 117) (.k (.sc (.int .i64 1))), none, []⟩,
 ⟨2, some 9, .mv (.t 118), none, []⟩] false [1, 3, 9])))
def decaniref06_Check_L3 : AC := .loop [1, 3, 9] decaniref06_Check_B3
def decaniref06_Check : Fn := ⟨1, 128, [(2, none)],
 (.seq (.region 1 [
 ⟨0, some 1, .box 0 (.t 0), none, []⟩,
 ⟨1, some 2, .mv (.k (.sc (.int .i64 0))), none, []⟩] false [1])
 (.seq (.region 0 [
 ⟨0, some 10, .faddr 8 (.t 1), none, []⟩,
 ⟨1, some 11, .load none (.t 10), none, []⟩,
 ⟨2, some 12, .len 1 (.t 11), none, []⟩,
 ⟨3, some 13, .call true (.f 29) [.t 12, .k (.sc (.int .i64 1)), .k (.sc (.int .i64 5))], none, []⟩,
 ⟨4, some 14, .mv (.t 13), none, []⟩,
 ⟨5, some 15, .faddr 9 (.t 1), some (14, true), []⟩,
 ⟨6, some 16, .load none (.t 15), some (14, true), []⟩,
 ⟨7, some 17, .len 1 (.t 16), some (14, true), []⟩,
 ⟨8, some 18, .bin .leq (.t 17) (.k (.sc (.int .i64 4))), some (14, true), []⟩,
 ⟨9, some 19, .pick (.t 14) (.t 18) (.k (.sc (.bool false))), none, []⟩,
 ⟨10, some 20, .mv (.t 19), none, []⟩,
 ⟨11, some 21, .faddr 10 (.t 1), some (20, true), []⟩,
 ⟨12, some 22, .load none (.t 21), some (20, true), []⟩,
 ⟨13, some 23, .len 1 (.t 22), some (20, true), []⟩,
 ⟨14, some 24, .bin .leq (.t 23) (.k (.sc (.int .i64 5))), some (20, true), []⟩,
 ⟨15, some 25, .pick (.t 20) (.t 24) (.k (.sc (.bool false))), none, []⟩,
 ⟨16, some 3, .mv (.t 25), none, []⟩] false [1, 3])
 (.seq (.seq (.region 0 [
 ⟨0, some 4, .mv (.k (.sc (.int .i64 0))), none, []⟩] false [1, 3, 4])
 (.block 0 (decaniref06_Check_L0)))
 (.seq (.seq (.region 0 [
 ⟨0, some 5, .mv (.k (.sc (.int .i64 0))), none, []⟩] false [1, 3, 5])
 (.block 2 (decaniref06_Check_L1)))
 (.seq (.seq (.region 0 [
 ⟨0, some 7, .mv (.k (.sc (.int .i64 0))), none, []⟩] false [1, 3, 7])
 (.block 4 (decaniref06_Check_L2)))
 (.seq (.seq (.region 0 [
 ⟨0, some 9, .mv (.k (.sc (.int .i64 0))), none, []⟩] false [1, 3, 9])
 (.block 6 (decaniref06_Check_L3)))
 (.seq (.seq (.region 0 [
 ⟨0, some 126, .mv (.t 3), none, []⟩,
 ⟨1, some 127, .un .not (.t 126), none, []⟩] false [127])
 (.cond (.t 127)
 (.seq (.region 0 [
 ⟨0, some 2, .mv (.k (.sc (.int .i64 60))), none, []⟩] false [2])
 (.ret))
 (.skip)))
 (.seq (.region 0 [
 ⟨0, some 2, .mv (.k (.sc (.int .i64 0))), none, []⟩] false [2])
 (.ret))))))))), false⟩

def candle_Left : Fn := ⟨3, 30, [(6, some (some 2)), (7, none)],
 (.seq (.region 2 [
 ⟨0, some 3, .box 0 (.t 0), none, []⟩,
 ⟨1, some 6, .alloc 1 [.int .i64 0, .int .i64 0], none, []⟩,
 ⟨2, some 7, .mv (.k (.sc (.int .i64 0))), none, []⟩] false [1, 2, 3, 6])
 (.seq (.region 1 [
 ⟨0, some 11, .load (some 11) (.t 3), none, []⟩,
 ⟨1, some 12, .mv (.t 1), none, []⟩,
 ⟨2, some 13, .call true (.f 47) [.t 12], none, []⟩,
 ⟨3, some 14, .mv (.t 13), none, []⟩,
 ⟨4, some 15, .load (some 11) (.t 3), some (14, true), []⟩,
 ⟨5, some 16, .mv (.t 2), some (14, true), []⟩,
 ⟨6, some 17, .call true (.f 46) [.t 15, .t 16], some (14, true), []⟩,
 ⟨7, some 18, .pick (.t 14) (.t 17) (.k (.sc (.bool false))), none, []⟩,
 ⟨8, some 19, .call true (.f 53) [.t 11, .t 18], none, []⟩,
 ⟨9, some 10, .mv (.t 19), none, []⟩,
 ⟨10, some 20, .ext (.t 10) 0, none, []⟩,
 ⟨11, some 21, .ext (.t 10) 1, none, []⟩,
 ⟨12, some 8, .alloc 0 [.int .i64 0, .int .i64 0, .int .i64 0, .int .i64 0, .int .i64 0, .int .i64 0, .int .i64 0, .int .i64 0, .sl .nil 5 [], .sl .nil 3 [], .sl .nil 4 [], .imap true false [], .sl .nil 17 []], none, [0, 4]⟩,
 ⟨13, none, .store 13 (.t 8) (.t 20), none, []⟩,
 ⟨14, some 9, .mv (.t 21), none, []⟩] true [1, 2, 6, 8, 9])
 (.seq (.seq (.region 0 [
 ⟨0, some 22, .mv (.t 9), none, []⟩,
 ⟨1, some 23, .bin .neq (.t 22) (.k (.sc (.int .i64 0))), none, []⟩] false [1, 2, 6, 8, 9, 23])
 (.cond (.t 23)
 (.seq (.region 0 [
 ⟨0, some 24, .build [.int .i64 0, .int .i64 0] [], none, []⟩,
 ⟨1, some 25, .mv (.t 9), none, []⟩,
 ⟨2, none, .store 2 (.t 6) (.t 24), none, []⟩,
 ⟨3, some 7, .mv (.t 25), none, []⟩] false [6, 7])
 (.ret))
 (.skip)))
 (.seq (.region 0 [
 ⟨0, some 26, .load (some 13) (.t 8), none, []⟩,
 ⟨1, some 27, .mv (.t 1), none, []⟩,
 ⟨2, some 28, .mv (.t 2), none, []⟩,
 ⟨3, some 29, .call true (.f 54) [.t 26, .t 27, .t 28], none, []⟩,
 ⟨4, none, .store 2 (.t 6) (.t 29), none, []⟩,
 ⟨5, some 7, .mv (.k (.sc (.int .i64 0))), none, []⟩] false [6, 7])
 (.ret))))), false⟩

def candle_Life : Fn := ⟨2, 23, [(4, some (some 2)), (5, none)],
 (.seq (.region 3 [
 ⟨0, some 2, .box 0 (.t 0), none, []⟩,
 ⟨1, some 3, .box 1 (.t 1), none, []⟩,
 ⟨2, some 4, .alloc 2 [.int .i64 0, .int .i64 0], none, []⟩,
 ⟨3, some 5, .mv (.k (.sc (.int .i64 0))), none, []⟩] false [2, 3, 4])
 (.frz 3 (.seq (.region 1 [
 ⟨0, some 9, .load (some 11) (.t 2), none, []⟩,
 ⟨1, some 10, .load none (.t 3), none, []⟩,
 ⟨2, some 11, .call true (.f 47) [.t 10], none, []⟩,
 ⟨3, some 12, .call true (.f 53) [.t 9, .t 11], none, []⟩,
 ⟨4, some 8, .mv (.t 12), none, []⟩,
 ⟨5, some 13, .ext (.t 8) 0, none, []⟩,
 ⟨6, some 14, .ext (.t 8) 1, none, []⟩,
 ⟨7, some 6, .alloc 0 [.int .i64 0, .int .i64 0, .int .i64 0, .int .i64 0, .int .i64 0, .int .i64 0, .int .i64 0, .int .i64 0, .sl .nil 5 [], .sl .nil 3 [], .sl .nil 4 [], .imap true false [], .sl .nil 17 []], none, [0, 1]⟩,
 ⟨8, none, .store 13 (.t 6) (.t 13), none, []⟩,
 ⟨9, some 7, .mv (.t 14), none, []⟩] true [3, 4, 6, 7])
 (.seq (.seq (.region 0 [
 ⟨0, some 15, .mv (.t 7), none, []⟩,
 ⟨1, some 16, .bin .neq (.t 15) (.k (.sc (.int .i64 0))), none, []⟩] false [3, 4, 6, 7, 16])
 (.cond (.t 16)
 (.seq (.region 0 [
 ⟨0, some 17, .build [.int .i64 0, .int .i64 0] [], none, []⟩,
 ⟨1, some 18, .mv (.t 7), none, []⟩,
 ⟨2, none, .store 2 (.t 4) (.t 17), none, []⟩,
 ⟨3, some 5, .mv (.t 18), none, []⟩] false [4, 5])
 (.ret))
 (.skip)))
 (.seq (.region 0 [
 ⟨0, some 19, .load (some 13) (.t 6), none, []⟩,
 ⟨1, some 20, .mkf 57 [] [] [.t 3], none, []⟩,
 ⟨2, some 21, .build [.nilf] [(0, 1, .t 20)], none, []⟩,
 ⟨3, some 22, .call true (.f 58) [.t 19, .t 21], none, []⟩,
 ⟨4, none, .store 2 (.t 4) (.t 22), none, []⟩,
 ⟨5, some 5, .mv (.k (.sc (.int .i64 0))), none, []⟩] false [4, 5])
 (.ret)))))), false⟩

def candle_Dark : Fn := ⟨2, 24, [(4, some (some 2)), (5, none)],
 (.seq (.region 3 [
 ⟨0, some 2, .box 0 (.t 0), none, []⟩,
 ⟨1, some 3, .box 1 (.t 1), none, []⟩,
 ⟨2, some 4, .alloc 2 [.int .i64 0, .int .i64 0], none, []⟩,
 ⟨3, some 5, .mv (.k (.sc (.int .i64 0))), none, []⟩] false [2, 3, 4])
 (.frz 3 (.seq (.region 1 [
 ⟨0, some 9, .load (some 11) (.t 2), none, []⟩,
 ⟨1, some 10, .load (some 11) (.t 2), none, []⟩,
 ⟨2, some 11, .load none (.t 3), none, []⟩,
 ⟨3, some 12, .call true (.f 46) [.t 10, .t 11], none, []⟩,
 ⟨4, some 13, .call true (.f 53) [.t 9, .t 12], none, []⟩,
 ⟨5, some 8, .mv (.t 13), none, []⟩,
 ⟨6, some 14, .ext (.t 8) 0, none, []⟩,
 ⟨7, some 15, .ext (.t 8) 1, none, []⟩,
 ⟨8, some 6, .alloc 0 [.int .i64 0, .int .i64 0, .int .i64 0, .int .i64 0, .int .i64 0, .int .i64 0, .int .i64 0, .int .i64 0, .sl .nil 5 [], .sl .nil 3 [], .sl .nil 4 [], .imap true false [], .sl .nil 17 []], none, [0, 1, 2]⟩,
 ⟨9, none, .store 13 (.t 6) (.t 14), none, []⟩,
 ⟨10, some 7, .mv (.t 15), none, []⟩] true [3, 4, 6, 7])
 (.seq (.seq (.region 0 [
 ⟨0, some 16, .mv (.t 7), none, []⟩,
 ⟨1, some 17, .bin .neq (.t 16) (.k (.sc (.int .i64 0))), none, []⟩] false [3, 4, 6, 7, 17])
 (.cond (.t 17)
 (.seq (.region 0 [
 ⟨0, some 18, .build [.int .i64 0, .int .i64 0] [], none, []⟩,
 ⟨1, some 19, .mv (.t 7), none, []⟩,
 ⟨2, none, .store 2 (.t 4) (.t 18), none, []⟩,
 ⟨3, some 5, .mv (.t 19), none, []⟩] false [4, 5])
 (.ret))
 (.skip)))
 (.seq (.region 0 [
 ⟨0, some 20, .load (some 13) (.t 6), none, []⟩,
 ⟨1, some 21, .mkf 60 [] [] [.t 3], none, []⟩,
 ⟨2, some 22, .build [.nilf] [(0, 1, .t 21)], none, []⟩,
 ⟨3, some 23, .call true (.f 58) [.t 20, .t 22], none, []⟩,
 ⟨4, none, .store 2 (.t 4) (.t 23), none, []⟩,
 ⟨5, some 5, .mv (.k (.sc (.int .i64 0))), none, []⟩] false [4, 5])
 (.ret)))))), false⟩

def decanilaw06_lit : Fn := ⟨0, 151, [(0, none)],
 (.seq (.region 0 [
 ⟨0, some 0, .mv (.k (.sc (.bool false))), none, []⟩] false [])
 (.seq (.region 1 [
 ⟨0, some 18, .call true (.f 38) [], none, []⟩,
 ⟨1, some 19, .call true (.f 6) [.t 18, .k (.sc (.int .i64 0)), .k (.sc (.int .i64 2))], none, []⟩,
 ⟨2, some 17, .mv (.t 19), none, []⟩,
 ⟨3, some 20, .ext (.t 17) 0, none, []⟩,
 ⟨4, some 21, .ext (.t 17) 1, none, []⟩,
 ⟨5, some 1, .alloc 0 [.int .i64 0, .int .i64 0], none, []⟩,
 ⟨6, none, .store 2 (.t 1) (.t 20), none, []⟩,
 ⟨7, some 2, .mv (.t 21), none, []⟩] false [1, 2])
 (.seq (.region 1 [
 ⟨0, some 23, .call true (.f 41) [], none, []⟩,
 ⟨1, some 24, .call true (.f 8) [.t 23, .k (.sc (.int .i64 0))], none, []⟩,
 ⟨2, some 22, .mv (.t 24), none, []⟩,
 ⟨3, some 25, .ext (.t 22) 0, none, []⟩,
 ⟨4, some 26, .ext (.t 22) 1, none, []⟩,
 ⟨5, some 3, .alloc 0 [.int .i64 0, .int .i64 0], none, []⟩,
 ⟨6, none, .store 2 (.t 3) (.t 25), none, []⟩,
 ⟨7, some 4, .mv (.t 26), none, []⟩] false [1, 2, 3, 4])
 (.seq (.region 1 [
 ⟨0, some 28, .call true (.f 41) [], none, []⟩,
 ⟨1, some 29, .call true (.f 10) [.t 28, .k (.sc (.int .i64 0))], none, []⟩,
 ⟨2, some 27, .mv (.t 29), none, []⟩,
 ⟨3, some 30, .ext (.t 27) 0, none, []⟩,
 ⟨4, some 31, .ext (.t 27) 1, none, []⟩,
 ⟨5, some 5, .alloc 0 [.int .i64 0, .int .i64 0], none, []⟩,
 ⟨6, none, .store 2 (.t 5) (.t 30), none, []⟩,
 ⟨7, some 6, .mv (.t 31), none, []⟩] false [1, 2, 3, 4, 5, 6])
 (.seq (.region 0 [
 ⟨0, some 33, .call true (.f 38) [], none, []⟩,
 ⟨1, some 34, .call true (.f 13) [.t 33, .k (.sc (.int .i64 0))], none, []⟩,
 ⟨2, some 32, .mv (.t 34), none, []⟩,
 ⟨3, some 35, .ext (.t 32) 0, none, []⟩,
 ⟨4, some 36, .ext (.t 32) 1, none, []⟩,
 ⟨5, some 7, .mv (.t 35), none, []⟩,
 ⟨6, some 8, .mv (.t 36), none, []⟩] false [1, 2, 3, 4, 5, 6, 7, 8])
 (.seq (.region 0 [
 ⟨0, some 38, .call true (.f 38) [], none, []⟩,
 ⟨1, some 39, .call true (.f 17) [.t 38, .k (.sc (.int .i64 0)), .k (.sc (.int .i64 2))], none, []⟩,
 ⟨2, some 37, .mv (.t 39), none, []⟩,
 ⟨3, some 40, .ext (.t 37) 0, none, []⟩,
 ⟨4, some 41, .ext (.t 37) 1, none, []⟩,
 ⟨5, some 9, .mv (.t 40), none, []⟩,
 ⟨6, some 10, .mv (.t 41), none, []⟩] false [1, 2, 3, 4, 5, 6, 7, 8, 9, 10])
 (.seq (.seq (.region 0 [
 ⟨0, some 42, .mv (.t 2), none, []⟩,
 ⟨1, some 43, .bin .neq (.t 42) (.k (.sc (.int .i64 0))), none, []⟩,
 ⟨2, some 44, .mv (.t 43), none, []⟩,
 ⟨3, some 45, .mv (.t 4), some (44, false), []⟩,
 ⟨4, some 46, .bin .neq (.t 45) (.k (.sc (.int .i64 0))), some (44, false), []⟩,
 ⟨5, some 47, .pick (.t 44) (.k (.sc (.bool true))) (.t 46), none, []⟩,
 ⟨6, some 48, .mv (.t 47), none, []⟩,
 ⟨7, some 49, .mv (.t 6), some (48, false), []⟩,
 ⟨8, some 50, .bin .neq (.t 49) (.k (.sc (.int .i64 0))), some (48, false), []⟩,
 ⟨9, some 51, .pick (.t 48) (.k (.sc (.bool true))) (.t 50), none, []⟩,
 ⟨10, some 52, .mv (.t 51), none, []⟩,
 ⟨11, some 53, .mv (.t 8), some (52, false), []⟩,
 ⟨12, some 54, .bin .neq (.t 53) (.k (.sc (.int .i64 0))), some (52, false), []⟩,
 ⟨13, some 55, .pick (.t 52) (.k (.sc (.bool true))) (.t 54), none, []⟩,
 ⟨14, some 56, .mv (.t 55), none, []⟩,
 ⟨15, some 57, .mv (.t 10), some (56, false), []⟩,
 ⟨16, some 58, .bin .neq (.t 57) (.k (.sc (.int .i64 0))), some (56, false), []⟩,
 ⟨17, some 59, .pick (.t 56) (.k (.sc (.bool true))) (.t 58), none, []⟩,
 ⟨18, some 60, .mv (.t 59), none, []⟩,
 ⟨19, some 61, .load (some 2) (.t 1), some (60, false), []⟩,
 ⟨20, some 62, .call true (.f 33) [.k (.sc (.int .i64 (-6))), .k (.sc (.int .i64 3))], some (60, false), []⟩,
 ⟨21, some 63, .eqf true ⟨true, [1, 1]⟩ (.t 61) (.t 62), some (60, false), []⟩,
 ⟨22, some 64, .pick (.t 60) (.k (.sc (.bool true))) (.t 63), none, []⟩,
 ⟨23, some 65, .mv (.t 64), none, []⟩,
 ⟨24, some 66, .load (some 2) (.t 3), some (65, false), []⟩,
 ⟨25, some 67, .call true (.f 30) [.k (.sc (.int .i64 3))], some (65, false), []⟩,
 ⟨26, some 68, .eqf true ⟨true, [1, 1]⟩ (.t 66) (.t 67), some (65, false), []⟩,
 ⟨27, some 69, .pick (.t 65) (.k (.sc (.bool true))) (.t 68), none, []⟩,
 ⟨28, some 70, .mv (.t 69), none, []⟩,
 ⟨29, some 71, .load (some 2) (.t 5), some (70, false), []⟩,
 ⟨30, some 72, .call true (.f 30) [.k (.sc (.int .i64 3))], some (70, false), []⟩,
 ⟨31, some 73, .eqf true ⟨true, [1, 1]⟩ (.t 71) (.t 72), some (70, false), []⟩,
 ⟨32, some 74, .pick (.t 70) (.k (.sc (.bool true))) (.t 73), none, []⟩,
 ⟨33, some 75, .mv (.t 74), none, []⟩,
 ⟨34, some 76, .mv (.t 7), some (75, false), []⟩,
 ⟨35, some 77, .bin .neq (.t 76) (.k (.sc (.int .i64 2))), some (75, false), []⟩,
 ⟨36, some 78, .pick (.t 75) (.k (.sc (.bool true))) (.t 77), none, []⟩,
 ⟨37, some 79, .mv (.t 78), none, []⟩,
 ⟨38, some 80, .mv (.t 9), some (79, false), []⟩,
 ⟨39, some 81, .bin .neq (.t 80) (.k (.sc (.int .i64 6))), some (79, false), []⟩,
 ⟨40, some 82, .pick (.t 79) (.k (.sc (.bool true))) (.t 81), none, []⟩] true [82])
 (.cond (.t 82)
 (.seq (.region 0 [
 ⟨0, some 0, .mv (.k (.sc (.bool false))), none, []⟩] false [0])
 (.ret))
 (.skip)))
 (.seq (.region 1 [
 ⟨0, some 84, .call true (.f 38) [], none, []⟩,
 ⟨1, some 85, .call true (.f 6) [.t 84, .k (.sc (.int .i64 1)), .k (.sc (.int .i64 2))], none, []⟩,
 ⟨2, some 83, .mv (.t 85), none, []⟩,
 ⟨3, some 86, .ext (.t 83) 0, none, []⟩,
 ⟨4, some 87, .ext (.t 83) 1, none, []⟩,
 ⟨5, some 11, .alloc 0 [.int .i64 0, .int .i64 0], none, []⟩,
 ⟨6, none, .store 2 (.t 11) (.t 86), none, []⟩,
 ⟨7, some 2, .mv (.t 87), none, []⟩] false [2, 11])
 (.seq (.region 0 [
 ⟨0, some 89, .call true (.f 38) [], none, []⟩,
 ⟨1, some 90, .build [.int .i64 0, .int .i64 0, .int .i64 0, .int .i64 0] [(2, 1, .k (.sc (.int .i64 5))), (3, 1, .k (.sc (.int .i64 1)))], none, []⟩,
 ⟨2, some 91, .call true (.f 19) [.t 89, .t 90], none, []⟩,
 ⟨3, some 88, .mv (.t 91), none, []⟩,
 ⟨4, some 92, .ext (.t 88) 0, none, []⟩,
 ⟨5, some 93, .ext (.t 88) 1, none, []⟩,
 ⟨6, some 12, .mv (.t 92), none, []⟩,
 ⟨7, some 4, .mv (.t 93), none, []⟩] false [2, 4, 11, 12])
 (.seq (.region 0 [
 ⟨0, some 95, .call true (.f 40) [], none, []⟩,
 ⟨1, some 96, .call true (.f 21) [.t 95], none, []⟩,
 ⟨2, some 94, .mv (.t 96), none, []⟩,
 ⟨3, some 97, .ext (.t 94) 0, none, []⟩,
 ⟨4, some 98, .ext (.t 94) 1, none, []⟩,
 ⟨5, some 13, .mv (.t 97), none, []⟩,
 ⟨6, some 6, .mv (.t 98), none, []⟩] false [2, 4, 6, 11, 12, 13])
 (.seq (.region 0 [
 ⟨0, some 100, .call true (.f 38) [], none, []⟩,
 ⟨1, some 101, .call true (.f 2) [.t 100], none, []⟩,
 ⟨2, some 99, .mv (.t 101), none, []⟩,
 ⟨3, some 102, .ext (.t 99) 0, none, []⟩,
 ⟨4, some 103, .ext (.t 99) 1, none, []⟩,
 ⟨5, some 14, .mv (.t 102), none, []⟩,
 ⟨6, some 8, .mv (.t 103), none, []⟩] false [2, 4, 6, 8, 11, 12, 13, 14])
 (.seq (.region 1 [
 ⟨0, some 104, .call true (.f 38) [], none, []⟩,
 ⟨1, some 15, .alloc 0 [.int .i64 0, .int .i64 0, .int .i64 0, .int .i64 0, .int .i64 0, .int .i64 0, .int .i64 0, .int .i64 0, .sl .nil 5 [], .sl .nil 3 [], .sl .nil 4 []], none, []⟩,
 ⟨2, none, .store 11 (.t 15) (.t 104), none, []⟩] false [2, 4, 6, 8, 11, 12, 13, 14, 15])
 (.seq (.region 0 [
 ⟨0, some 105, .call true (.f 30) [.k (.sc (.int .i64 5))], none, []⟩,
 ⟨1, some 106, .faddr 0 (.t 15), none, []⟩,
 ⟨2, some 107, .iarr 2 2 (.t 106) (.k (.sc (.int .i64 1))), none, []⟩,
 ⟨3, none, .store 2 (.t 107) (.t 105), none, []⟩] false [2, 4, 6, 8, 11, 12, 13, 14, 15])
 (.seq (.region 0 [
 ⟨0, some 109, .load (some 11) (.t 15), none, []⟩,
 ⟨1, some 110, .call true (.f 15) [.t 109, .k (.sc (.int .i64 1))], none, []⟩,
 ⟨2, some 108, .mv (.t 110), none, []⟩,
 ⟨3, some 111, .ext (.t 108) 0, none, []⟩,
 ⟨4, some 112, .ext (.t 108) 1, none, []⟩,
 ⟨5, some 16, .mv (.t 111), none, []⟩,
 ⟨6, some 10, .mv (.t 112), none, []⟩] false [2, 4, 6, 8, 10, 11, 12, 13, 14, 16])
 (.seq (.region 0 [
 ⟨0, some 113, .mv (.t 2), none, []⟩,
 ⟨1, some 114, .bin .eql (.t 113) (.k (.sc (.int .i64 0))), none, []⟩,
 ⟨2, some 115, .mv (.t 114), none, []⟩,
 ⟨3, some 116, .mv (.t 4), some (115, true), []⟩,
 ⟨4, some 117, .bin .eql (.t 116) (.k (.sc (.int .i64 0))), some (115, true), []⟩,
 ⟨5, some 118, .pick (.t 115) (.t 117) (.k (.sc (.bool false))), none, []⟩,
 ⟨6, some 119, .mv (.t 118), none, []⟩,
 ⟨7, some 120, .mv (.t 6), some (119, true), []⟩,
 ⟨8, some 121, .bin .eql (.t 120) (.k (.sc (.int .i64 0))), some (119, true), []⟩,
 ⟨9, some 122, .pick (.t 119) (.t 121) (.k (.sc (.bool false))), none, []⟩,
 ⟨10, some 123, .mv (.t 122), none, []⟩,
 ⟨11, some 124, .mv (.t 8), some (123, true), []⟩,
 ⟨12, some 125, .bin .eql (.t 124) (.k (.sc (.int .i64 0))), some (123, true), []⟩,
 ⟨13, some 126, .pick (.t 123) (.t 125) (.k (.sc (.bool false))), none, []⟩,
 ⟨14, some 127, .mv (.t 126), none, []⟩,
 ⟨15, some 128, .mv (.t 10), some (127, true), []⟩,
 ⟨16, some 129, .bin .eql (.t 128) (.k (.sc (.int .i64 0))), some (127, true), []⟩,
 ⟨17, some 130, .pick (.t 127) (.t 129) (.k (.sc (.bool false))), none, []⟩,
 ⟨18, some 131, .mv (.t 130), none, []⟩,
 ⟨19, some 132, .load (some 2) (.t 11), some (131, true), []⟩,
 ⟨20, some 133, .call true (.f 33) [.k (.sc (.int .i64 6)), .k (.sc (.int .i64 12))], some (131, true), []⟩,
 ⟨21, some 134, .eqf false ⟨true, [1, 1]⟩ (.t 132) (.t 133), some (131, true), []⟩,
 ⟨22, some 135, .pick (.t 131) (.t 134) (.k (.sc (.bool false))), none, []⟩,
 ⟨23, some 136, .mv (.t 135), none, []⟩,
 ⟨24, some 137, .mv (.t 12), some (136, true), []⟩,
 ⟨25, some 138, .pick (.t 136) (.t 137) (.k (.sc (.bool false))), none, []⟩,
 ⟨26, some 139, .mv (.t 138), none, []⟩,
 ⟨27, some 140, .mv (.t 13), some (139, true), []⟩,
 ⟨28, some 141, .bslice 1 1 [.int .i64 0] [(0, .k (.sc (.int .i64 0)))], some (139, true), []⟩,
 ⟨29, some 142, .call true (.f 23) [.t 140, .t 141], some (139, true), []⟩,
 ⟨30, some 143, .pick (.t 139) (.t 142) (.k (.sc (.bool false))), none, []⟩,
 ⟨31, some 144, .mv (.t 143), none, []⟩,
 ⟨32, some 145, .mv (.t 14), some (144, true), []⟩,
 ⟨33, some 146, .pick (.t 144) (.t 145) (.k (.sc (.bool false))), none, []⟩,
 ⟨34, some 147, .mv (.t 146), none, []⟩,
 ⟨35, some 148, .mv (.t 16), some (147, true), []⟩,
 ⟨36, some 149, .bin .eql (.t 148) (.k (.sc (.int .i64 0))), some (147, true), []⟩,
 ⟨37, some 150, .pick (.t 147) (.t 149) (.k (.sc (.bool false))), none, []⟩,
 ⟨38, some 0, .mv (.t 150), none, []⟩] true [0])
 (.ret)))))))))))))))), false⟩

def candle_Short : Fn := ⟨2, 11, [(4, none), (5, none)],
 (.seq (.region 1 [
 ⟨0, some 2, .box 0 (.t 0), none, []⟩,
 ⟨1, some 4, .mv (.k (.sc (.int .i64 0))), none, []⟩,
 ⟨2, some 5, .mv (.k (.sc (.int .i64 0))), none, []⟩] false [1, 2])
 (.seq (.region 0 [
 ⟨0, some 6, .load (some 11) (.t 2), none, []⟩,
 ⟨1, some 7, .mv (.t 1), none, []⟩,
 ⟨2, some 8, .call true (.f 61) [.t 6, .t 7, .k (.sc (.int .i64 0))], none, []⟩,
 ⟨3, some 9, .ext (.t 8) 0, none, []⟩,
 ⟨4, some 10, .ext (.t 8) 1, none, []⟩,
 ⟨5, some 4, .mv (.t 9), none, []⟩,
 ⟨6, some 5, .mv (.t 10), none, []⟩] false [4, 5])
 (.ret))), false⟩

def candle_Surely : Fn := ⟨2, 11, [(4, none), (5, none)],
 (.seq (.region 1 [
 ⟨0, some 2, .box 0 (.t 0), none, []⟩,
 ⟨1, some 4, .mv (.k (.sc (.int .i64 0))), none, []⟩,
 ⟨2, some 5, .mv (.k (.sc (.int .i64 0))), none, []⟩] false [1, 2])
 (.seq (.region 0 [
 ⟨0, some 6, .load (some 11) (.t 2), none, []⟩,
 ⟨1, some 7, .mv (.t 1), none, []⟩,
 ⟨2, some 8, .call true (.f 61) [.t 6, .t 7, .k (.sc (.int .i64 1))], none, []⟩,
 ⟨3, some 9, .ext (.t 8) 0, none, []⟩,
 ⟨4, some 10, .ext (.t 8) 1, none, []⟩,
 ⟨5, some 4, .mv (.t 9), none, []⟩,
 ⟨6, some 5, .mv (.t 10), none, []⟩] false [4, 5])
 (.ret))), false⟩

def candle_Buy_B0 : AC :=
 (.seq (.seq (.region 0 [
 ⟨0, some 28, .mv (.t 11), none, []⟩,
 ⟨1, some 29, .faddr 8 (.t 3), none, []⟩,
 ⟨2, some 30, .load none (.t 29), none, []⟩,
 ⟨3, some 31, .len 1 (.t 30), none, []⟩,
 ⟨4, some 32, .bin .lss (.t 28) (.t 31), none, []⟩] false [1, 3, 8, 10, 11, 32])
 (.cond (.t 32)
 (.skip)
 (.exit 0)))
 (.seq (.block 1 (.region 0 [
 ⟨0, some 35, .mv (.t 10), none, []⟩,
 ⟨1, some 36, .load (some 13) (.t 8), none, []⟩,
 ⟨2, some 37, .mv (.t 1), none, []⟩,
 ⟨3, some 38, .mv (.t 11), none, []⟩,
 ⟨4, some 39, .call true (.f 54) [.t 36, .t 37, .t 38], none, []⟩,
 ⟨5, some 40, .field 0 none (.t 39), none, []⟩,
 ⟨6, some 41, .un .neg (.t 40), none, []⟩,
 ⟨7, some 42, .max (.t 35) [.t 41], none, []⟩,
 ⟨8, some 10, .mv (.t 42), none, []⟩] false [1, 3, 8, 10, 11]))
 (.region 0 [
 ⟨0, some 33, .mv (.t 11), none, []⟩,
 ⟨1, some 34, .bin .add (.t 33) (.k (.sc (.int .i64 1))), none, []⟩,
 ⟨2, some 11, .mv (.t 34), none, []⟩] false [1, 3, 8, 10, 11])))
def candle_Buy_L0 : AC := .loop [1, 3, 8, 10, 11] candle_Buy_B0
def candle_Buy : Fn := ⟨3, 44, [(6, none), (7, none)],
 (.seq (.region 1 [
 ⟨0, some 3, .box 0 (.t 0), none, []⟩,
 ⟨1, some 6, .mv (.k (.sc (.int .i64 0))), none, []⟩,
 ⟨2, some 7, .mv (.k (.sc (.int .i64 0))), none, []⟩] false [1, 2, 3])
 (.seq (.region 1 [
 ⟨0, some 13, .load (some 11) (.t 3), none, []⟩,
 ⟨1, some 14, .mv (.t 1), none, []⟩,
 ⟨2, some 15, .call true (.f 47) [.t 14], none, []⟩,
 ⟨3, some 16, .mv (.t 15), none, []⟩,
 ⟨4, some 17, .load (some 11) (.t 3), some (16, true), []⟩,
 ⟨5, some 18, .mv (.t 2), some (16, true), []⟩,
 ⟨6, some 19, .call true (.f 46) [.t 17, .t 18], some (16, true), []⟩,
 ⟨7, some 20, .pick (.t 16) (.t 19) (.k (.sc (.bool false))), none, []⟩,
 ⟨8, some 21, .call true (.f 53) [.t 13, .t 20], none, []⟩,
 ⟨9, some 12, .mv (.t 21), none, []⟩,
 ⟨10, some 22, .ext (.t 12) 0, none, []⟩,
 ⟨11, some 23, .ext (.t 12) 1, none, []⟩,
 ⟨12, some 8, .alloc 0 [.int .i64 0, .int .i64 0, .int .i64 0, .int .i64 0, .int .i64 0, .int .i64 0, .int .i64 0, .int .i64 0, .sl .nil 5 [], .sl .nil 3 [], .sl .nil 4 [], .imap true false [], .sl .nil 17 []], none, [0, 4]⟩,
 ⟨13, none, .store 13 (.t 8) (.t 22), none, []⟩,
 ⟨14, some 9, .mv (.t 23), none, []⟩] true [1, 2, 3, 8, 9])
 (.seq (.seq (.region 0 [
 ⟨0, some 24, .mv (.t 9), none, []⟩,
 ⟨1, some 25, .bin .neq (.t 24) (.k (.sc (.int .i64 0))), none, []⟩] false [1, 2, 3, 8, 9, 25])
 (.cond (.t 25)
 (.seq (.region 0 [
 ⟨0, some 26, .mv (.t 9), none, []⟩,
 ⟨1, some 6, .mv (.k (.sc (.int .i64 0))), none, []⟩,
 ⟨2, some 7, .mv (.t 26), none, []⟩] false [6, 7])
 (.ret))
 (.skip)))
 (.seq (.region 0 [
 ⟨0, some 10, .mv (.k (.sc (.int .i64 0))), none, []⟩] false [1, 2, 3, 8, 10])
 (.seq (.seq (.region 0 [
 ⟨0, some 27, .mv (.t 2), none, []⟩,
 ⟨1, some 11, .mv (.t 27), none, []⟩] false [1, 3, 8, 10, 11])
 (.block 0 (candle_Buy_L0)))
 (.seq (.region 0 [
 ⟨0, some 43, .mv (.t 10), none, []⟩,
 ⟨1, some 6, .mv (.t 43), none, []⟩,
 ⟨2, some 7, .mv (.k (.sc (.int .i64 0))), none, []⟩] false [6, 7])
 (.ret))))))), false⟩

def candle_Fits : Fn := ⟨2, 37, [(4, none), (5, none)],
 (.seq (.region 2 [
 ⟨0, some 2, .box 0 (.t 0), none, []⟩,
 ⟨1, some 3, .box 1 (.t 1), none, []⟩,
 ⟨2, some 4, .mv (.k (.sc (.bool false))), none, []⟩,
 ⟨3, some 5, .mv (.k (.sc (.int .i64 0))), none, []⟩] false [2, 3])
 (.seq (.seq (.region 1 [
 ⟨0, some 9, .load (some 11) (.t 2), none, []⟩,
 ⟨1, some 10, .load (some 11) (.t 2), none, []⟩,
 ⟨2, some 11, .load (some 4) (.t 3), none, []⟩,
 ⟨3, some 12, .call true (.f 48) [.t 10, .t 11], none, []⟩,
 ⟨4, some 13, .call true (.f 53) [.t 9, .t 12], none, []⟩,
 ⟨5, some 8, .mv (.t 13), none, []⟩,
 ⟨6, some 14, .ext (.t 8) 0, none, []⟩,
 ⟨7, some 15, .ext (.t 8) 1, none, []⟩,
 ⟨8, some 6, .alloc 0 [.int .i64 0, .int .i64 0, .int .i64 0, .int .i64 0, .int .i64 0, .int .i64 0, .int .i64 0, .int .i64 0, .sl .nil 5 [], .sl .nil 3 [], .sl .nil 4 [], .imap true false [], .sl .nil 17 []], none, [0, 1, 2]⟩,
 ⟨9, none, .store 13 (.t 6) (.t 14), none, []⟩,
 ⟨10, some 7, .mv (.t 15), none, []⟩] true [2, 3, 7])
 (.seq (.region 0 [
 ⟨0, some 16, .mv (.t 7), none, []⟩,
 ⟨1, some 17, .bin .neq (.t 16) (.k (.sc (.int .i64 0))), none, []⟩] false [2, 3, 7, 17])
 (.cond (.t 17)
 (.seq (.region 0 [
 ⟨0, some 18, .mv (.t 7), none, []⟩,
 ⟨1, some 4, .mv (.k (.sc (.bool false))), none, []⟩,
 ⟨2, some 5, .mv (.t 18), none, []⟩] false [4, 5])
 (.ret))
 (.skip))))
 (.seq (.region 0 [
 ⟨0, some 19, .faddr 10 (.t 2), none, []⟩,
 ⟨1, some 20, .load none (.t 19), none, []⟩,
 ⟨2, some 21, .faddr 10 (.t 2), none, []⟩,
 ⟨3, some 22, .load none (.t 21), none, []⟩,
 ⟨4, some 23, .len 1 (.t 22), none, []⟩,
 ⟨5, some 24, .faddr 10 (.t 2), none, []⟩,
 ⟨6, some 25, .load none (.t 24), none, []⟩,
 ⟨7, some 26, .len 1 (.t 25), none, []⟩,
 ⟨8, some 27, .slice 4 (.t 20) none (some (.t 23)) (some (.t 26)), none, []⟩,
 ⟨9, some 28, .load (some 4) (.t 3), none, []⟩,
 ⟨10, some 29, .bslice 4 1 [.int .i64 0, .int .i64 0, .int .i64 0, .int .i64 0] [(0, .t 28)], none, []⟩,
 ⟨11, some 30, .append 4 (.tk 27) (.t 29), none, []⟩,
 ⟨12, some 31, .faddr 10 (.t 2), none, []⟩,
 ⟨13, none, .store 1 (.t 31) (.tk 30), none, []⟩] true [2])
 (.seq (.region 0 [
 ⟨0, some 32, .load (some 11) (.t 2), none, []⟩,
 ⟨1, some 33, .call true (.f 42) [.t 32, .k (.sc (.sl .nil 1 []))], none, []⟩,
 ⟨2, some 34, .field 12 none (.t 33), none, []⟩,
 ⟨3, some 35, .len 1 (.t 34), none, []⟩,
 ⟨4, some 36, .bin .gtr (.t 35) (.k (.sc (.int .i64 0))), none, []⟩,
 ⟨5, some 4, .mv (.t 36), none, []⟩,
 ⟨6, some 5, .mv (.k (.sc (.int .i64 0))), none, []⟩] false [4, 5])
 (.ret))))), false⟩

def decaniref06_Fits : Fn := ⟨2, 34, [(4, none), (5, none)],
 (.seq (.region 2 [
 ⟨0, some 2, .box 0 (.t 0), none, []⟩,
 ⟨1, some 3, .box 1 (.t 1), none, []⟩,
 ⟨2, some 4, .mv (.k (.sc (.bool false))), none, []⟩,
 ⟨3, some 5, .mv (.k (.sc (.int .i64 0))), none, []⟩] false [2, 3])
 (.seq (.seq (.region 1 [
 ⟨0, some 10, .load (some 11) (.t 2), none, []⟩,
 ⟨1, some 11, .load (some 11) (.t 2), none, []⟩,
 ⟨2, some 12, .load (some 4) (.t 3), none, []⟩,
 ⟨3, some 13, .call true (.f 52) [.t 11, .t 12], none, []⟩,
 ⟨4, some 14, .call true (.f 55) [.t 10, .t 13], none, []⟩,
 ⟨5, some 9, .mv (.t 14), none, []⟩,
 ⟨6, some 15, .ext (.t 9) 0, none, []⟩,
 ⟨7, some 16, .ext (.t 9) 1, none, []⟩,
 ⟨8, some 6, .alloc 0 [.sl .nil 3 [], .sl .nil 3 []], none, [0, 1, 2]⟩,
 ⟨9, none, .store 2 (.t 6) (.t 15), none, []⟩,
 ⟨10, some 7, .mv (.t 16), none, []⟩] true [2, 3, 7])
 (.seq (.region 0 [
 ⟨0, some 17, .mv (.t 7), none, []⟩,
 ⟨1, some 18, .bin .neq (.t 17) (.k (.sc (.int .i64 0))), none, []⟩] false [2, 3, 7, 18])
 (.cond (.t 18)
 (.seq (.region 0 [
 ⟨0, some 19, .mv (.t 7), none, []⟩,
 ⟨1, some 4, .mv (.k (.sc (.bool false))), none, []⟩,
 ⟨2, some 5, .mv (.t 19), none, []⟩] false [4, 5])
 (.ret))
 (.skip))))
 (.seq (.region 1 [
 ⟨0, some 20, .load (some 11) (.t 2), none, []⟩,
 ⟨1, some 8, .alloc 0 [.int .i64 0, .int .i64 0, .int .i64 0, .int .i64 0, .int .i64 0, .int .i64 0, .int .i64 0, .int .i64 0, .sl .nil 5 [], .sl .nil 3 [], .sl .nil 4 []], none, []⟩,
 ⟨2, none, .store 11 (.t 8) (.t 20), none, []⟩] false [2, 3, 8])
 (.seq (.region 0 [
 ⟨0, some 21, .bslice 4 0 [.int .i64 0, .int .i64 0, .int .i64 0, .int .i64 0] [], none, []⟩,
 ⟨1, some 22, .faddr 10 (.t 2), none, []⟩,
 ⟨2, some 23, .load none (.t 22), none, []⟩,
 ⟨3, some 24, .append 4 (.tk 21) (.t 23), none, []⟩,
 ⟨4, some 25, .load (some 4) (.t 3), none, []⟩,
 ⟨5, some 26, .bslice 4 1 [.int .i64 0, .int .i64 0, .int .i64 0, .int .i64 0] [(0, .t 25)], none, []⟩,
 ⟨6, some 27, .append 4 (.tk 24) (.t 26), none, []⟩,
 ⟨7, some 28, .faddr 10 (.t 8), none, []⟩,
 ⟨8, none, .store 1 (.t 28) (.tk 27), none, []⟩] true [8])
 (.seq (.region 0 [
 ⟨0, some 29, .load (some 11) (.t 8), none, []⟩,
 ⟨1, some 30, .call true (.f 43) [.t 29, .k (.sc (.int .i64 0))], none, []⟩,
 ⟨2, some 31, .index 2 1 none (.t 30) (.k (.sc (.int .i64 0))), none, []⟩,
 ⟨3, some 32, .len 1 (.t 31), none, []⟩,
 ⟨4, some 33, .bin .gtr (.t 32) (.k (.sc (.int .i64 0))), none, []⟩,
 ⟨5, some 4, .mv (.t 33), none, []⟩,
 ⟨6, some 5, .mv (.k (.sc (.int .i64 0))), none, []⟩] false [4, 5])
 (.ret)))))), false⟩

def candle_Wrong_B0 : AC :=
 (.seq (.region 0 [
 ⟨0, some 20, .bin .lss (.t 19) (.t 18), none, []⟩] false [5, 18, 19, 20])
 (.seq (.cond (.t 20)
 (.skip)
 (.exit 0))
 (.seq (.block 1 (.seq (.region 0 [
 ⟨0, some 21, .mv (.t 19), none, []⟩,
 ⟨1, some 6, .mv (.t 21), none, []⟩] false [5, 6, 18, 19])
 (.seq (.region 0 [
 ⟨0, some 23, .load none (.t 5), none, []⟩,
 ⟨1, some 24, .mv (.t 6), none, []⟩,
 ⟨2, some 25, .call false (.t 23) [.k (.sc (.sl .nil 1 [])), .t 24], none, []⟩,
 ⟨3, some 22, .mv (.t 25), none, []⟩,
 ⟨4, some 26, .ext (.t 22) 0, none, []⟩,
 ⟨5, some 27, .ext (.t 22) 1, none, []⟩,
 ⟨6, some 7, .mv (.t 26), none, []⟩,
 ⟨7, some 8, .mv (.t 27), none, []⟩] false [5, 7, 8, 18, 19])
 (.seq (.region 0 [
 ⟨0, some 28, .mv (.t 8), none, []⟩] false [5, 7, 18, 19, 28])
 (.cond (.t 28)
 (.seq (.region 0 [
 ⟨0, some 29, .mv (.t 7), none, []⟩,
 ⟨1, some 30, .mv (.t 7), none, []⟩,
 ⟨2, some 31, .len 1 (.t 30), none, []⟩,
 ⟨3, some 32, .mv (.t 7), none, []⟩,
 ⟨4, some 33, .len 1 (.t 32), none, []⟩,
 ⟨5, some 34, .slice 1 (.t 29) none (some (.t 31)) (some (.t 33)), none, []⟩,
 ⟨6, some 2, .mv (.t 34), none, []⟩,
 ⟨7, some 3, .mv (.k (.sc (.int .i64 0))), none, []⟩] false [2, 3])
 (.ret))
 (.skip))))))
 (.region 0 [
 ⟨0, some 35, .bin .add (.t 19) (.k (.sc (.int .i64 1))), none, []⟩,
 ⟨1, some 19, .mv (.t 35), none, []⟩] false [5, 18, 19]))))
def candle_Wrong_L0 : AC := .loop [5, 18, 19] candle_Wrong_B0
def candle_Wrong : Fn := ⟨1, 36, [(2, none), (3, none)],
 (.seq (.region 1 [
 ⟨0, some 1, .box 0 (.t 0), none, []⟩,
 ⟨1, some 2, .mv (.k (.sc (.sl .nil 1 []))), none, []⟩,
 ⟨2, some 3, .mv (.k (.sc (.int .i64 0))), none, []⟩] false [1])
 (.frz 1 (.seq (.seq (.region 0 [
 ⟨0, some 9, .load (some 11) (.t 1), none, []⟩,
 ⟨1, some 10, .call true (.f 4) [.t 9], none, []⟩,
 ⟨2, some 4, .mv (.t 10), none, []⟩] false [1, 4])
 (.seq (.region 0 [
 ⟨0, some 11, .mv (.t 4), none, []⟩,
 ⟨1, some 12, .bin .neq (.t 11) (.k (.sc (.int .i64 0))), none, []⟩] false [1, 4, 12])
 (.cond (.t 12)
 (.seq (.region 0 [
 ⟨0, some 13, .mv (.t 4), none, []⟩,
 ⟨1, some 2, .mv (.k (.sc (.sl .nil 1 []))), none, []⟩,
 ⟨2, some 3, .mv (.t 13), none, []⟩] false [2, 3])
 (.ret))
 (.skip))))
 (.seq (.region 1 [
 ⟨0, some 5, .alloc 0 [.nilf], none, []⟩] false [1, 5])
 (.seq (.region 0 [
 ⟨0, some 14, .mkf 62 [] [] [.t 1, .t 5], none, []⟩,
 ⟨1, none, .store 1 (.t 5) (.t 14), none, []⟩] false [1, 5])
 (.seq (.seq (.region 0 [
 ⟨0, some 15, .faddr 10 (.t 1), none, []⟩,
 ⟨1, some 16, .load none (.t 15), none, []⟩,
 ⟨2, some 17, .len 1 (.t 16), none, []⟩,
 ⟨3, some 18, .bin .add (.t 17) (.k (.sc (.int .i64 1))), none, []⟩,
 ⟨4, some 19, .mv (.k (.sc (.int .i64 0))), none, []⟩] false [5, 18, 19])
 (.block 0 (candle_Wrong_L0)))
 (.seq (.region 0 [
 ⟨0, some 2, .mv (.k (.sc (.sl .nil 1 []))), none, []⟩,
 ⟨1, some 3, .mv (.k (.sc (.int .i64 0))), none, []⟩] false [2, 3])
 (.ret)))))))), false⟩

def decaniref06_Wrong_B0 : AC :=
 (.seq (.seq (.region 0 [
 ⟨0, some 22, .mv (.t 7), none, []⟩,
 ⟨1, some 23, .mv (.t 5), none, []⟩,
 ⟨2, some 24, .bin .shl (.k (.sc (.int .i64 1))) (.t 23), none, []⟩,
 ⟨3, some 25, .bin .lss (.t 22) (.t 24), none, []⟩] false [1, 5, 6, 7, 25])
 (.cond (.t 25)
 (.skip)
 (.exit 0)))
 (.seq (.block 1 (.seq (.region 0 [
 ⟨0, some 28, .mv (.t 7), none, []⟩,
 ⟨1, some 29, .mv (.t 5), none, []⟩,
 ⟨2, some 30, .call true (.f 35) [.t 28, .t 29], none, []⟩,
 ⟨3, some 8, .mv (.t 30), none, []⟩] false [1, 5, 6, 7, 8])
 (.seq (.region 0 [
 ⟨0, some 31, .mv (.t 8), none, []⟩,
 ⟨1, some 32, .mv (.t 6), none, []⟩,
 ⟨2, some 33, .call true (.f 37) [.t 31, .t 32], none, []⟩,
 ⟨3, some 34, .mv (.t 33), none, []⟩,
 ⟨4, some 35, .load (some 11) (.t 1), some (34, true), []⟩,
 ⟨5, some 36, .mv (.t 7), some (34, true), []⟩,
 ⟨6, some 37, .call true (.f 43) [.t 35, .t 36], some (34, true), []⟩,
 ⟨7, some 38, .index 2 1 none (.t 37) (.k (.sc (.int .i64 0))), some (34, true), []⟩,
 ⟨8, some 39, .len 1 (.t 38), some (34, true), []⟩,
 ⟨9, some 40, .bin .gtr (.t 39) (.k (.sc (.int .i64 0))), some (34, true), []⟩,
 ⟨10, some 41, .pick (.t 34) (.t 40) (.k (.sc (.bool false))), none, []⟩] false [1, 5, 6, 7, 8, 41])
 (.cond (.t 41)
 (.region 0 [
 ⟨0, some 42, .mv (.t 8), none, []⟩,
 ⟨1, some 6, .mv (.t 42), none, []⟩] false [1, 5, 6, 7])
 (.skip)))))
 (.region 0 [
 ⟨0, some 26, .mv (.t 7), none, []⟩,
 ⟨1, some 27, .bin .add (.t 26) (.k (.sc (.int .i64 1))), none, []⟩,
 ⟨2, some 7, .mv (.t 27), none, []⟩] false [1, 5, 6, 7])))
def decaniref06_Wrong_L0 : AC := .loop [1, 5, 6, 7] decaniref06_Wrong_B0
def decaniref06_Wrong : Fn := ⟨1, 44, [(2, none), (3, none)],
 (.seq (.region 1 [
 ⟨0, some 1, .box 0 (.t 0), none, []⟩,
 ⟨1, some 2, .mv (.k (.sc (.sl .nil 1 []))), none, []⟩,
 ⟨2, some 3, .mv (.k (.sc (.int .i64 0))), none, []⟩] false [1])
 (.seq (.seq (.region 0 [
 ⟨0, some 9, .load (some 11) (.t 1), none, []⟩,
 ⟨1, some 10, .call true (.f 5) [.t 9], none, []⟩,
 ⟨2, some 4, .mv (.t 10), none, []⟩] false [1, 4])
 (.seq (.region 0 [
 ⟨0, some 11, .mv (.t 4), none, []⟩,
 ⟨1, some 12, .bin .neq (.t 11) (.k (.sc (.int .i64 0))), none, []⟩] false [1, 4, 12])
 (.cond (.t 12)
 (.seq (.region 0 [
 ⟨0, some 13, .mv (.t 4), none, []⟩,
 ⟨1, some 2, .mv (.k (.sc (.sl .nil 1 []))), none, []⟩,
 ⟨2, some 3, .mv (.t 13), none, []⟩] false [2, 3])
 (.ret))
 (.skip))))
 (.seq (.region 0 [
 ⟨0, some 14, .faddr 10 (.t 1), none, []⟩,
 ⟨1, some 15, .load none (.t 14), none, []⟩,
 ⟨2, some 16, .len 1 (.t 15), none, []⟩,
 ⟨3, some 5, .mv (.t 16), none, []⟩] false [1, 5])
 (.seq (.region 0 [
 ⟨0, some 17, .mv (.t 5), none, []⟩,
 ⟨1, some 18, .bin .shl (.k (.sc (.int .i64 1))) (.t 17), none, []⟩,
 ⟨2, some 19, .bin .sub (.t 18) (.k (.sc (.int .i64 1))), none, []⟩,
 ⟨3, some 20, .mv (.t 5), none, []⟩,
 ⟨4, some 21, .call true (.f 35) [.t 19, .t 20], none, []⟩,
 ⟨5, some 6, .mv (.t 21), none, []⟩] false [1, 5, 6])
 (.seq (.seq (.region 0 [
 ⟨0, some 7, .mv (.k (.sc (.int .i64 0))), none, []⟩] false [1, 5, 6, 7])
 (.block 0 (decaniref06_Wrong_L0)))
 (.seq (.region 0 [
 ⟨0, some 43, .mv (.t 6), none, []⟩,
 ⟨1, some 2, .mv (.t 43), none, []⟩,
 ⟨2, some 3, .mv (.k (.sc (.int .i64 0))), none, []⟩] false [2, 3])
 (.ret))))))), false⟩

def decaniref00_Equal_B0 : AC :=
 (.seq (.seq (.region 0 [
 ⟨0, some 12, .mv (.t 5), none, []⟩,
 ⟨1, some 13, .mv (.t 12), none, []⟩,
 ⟨2, some 14, .mv (.t 6), some (13, true), []⟩,
 ⟨3, some 15, .mv (.t 0), some (13, true), []⟩,
 ⟨4, some 16, .len 1 (.t 15), some (13, true), []⟩,
 ⟨5, some 17, .bin .lss (.t 14) (.t 16), some (13, true), []⟩,
 ⟨6, some 18, .pick (.t 13) (.t 17) (.k (.sc (.bool false))), none, []⟩] false [0, 1, 5, 6, 18])
 (.cond (.t 18)
 (.skip)
 (.exit 0)))
 (.seq (.block 1 (.region 0 [
 ⟨0, some 21, .mv (.t 0), none, []⟩,
 ⟨1, some 22, .mv (.t 6), none, []⟩,
 ⟨2, some 23, .iaddr 1 (.t 21) (.t 22), none, []⟩,
 ⟨3, some 24, .load none (.t 23), none, []⟩,
 ⟨4, some 25, .mv (.t 1), none, []⟩,
 ⟨5, some 26, .mv (.t 6), none, []⟩,
 ⟨6, some 27, .iaddr 1 (.t 25) (.t 26), none, []⟩,
 ⟨7, some 28, .load none (.t 27), none, []⟩,
 ⟨8, some 29, .bin .eql (.t 24) (.t 28), none, []⟩,
 ⟨9, some 5, .mv (.t 29), none, []⟩] true [0, 1, 5, 6]))
 (.region 0 [
 ⟨0, some 19, .mv (.t 6), none, []⟩,
 ⟨1, some 20, .bin .add (.t 19) (.k (.sc (.int .i64 1))), none, []⟩,
 ⟨2, some 6, .mv (.t 20), none, []⟩] false [0, 1, 5, 6])))
def decaniref00_Equal_L0 : AC := .loop [0, 1, 5, 6] decaniref00_Equal_B0
def decaniref00_Equal : Fn := ⟨2, 31, [(4, none)],
 (.seq (.region 0 [
 ⟨0, some 4, .mv (.k (.sc (.bool false))), none, []⟩] false [0, 1])
 (.seq (.region 0 [
 ⟨0, some 7, .mv (.t 0), none, []⟩,
 ⟨1, some 8, .len 1 (.t 7), none, []⟩,
 ⟨2, some 9, .mv (.t 1), none, []⟩,
 ⟨3, some 10, .len 1 (.t 9), none, []⟩,
 ⟨4, some 11, .bin .eql (.t 8) (.t 10), none, []⟩,
 ⟨5, some 5, .mv (.t 11), none, []⟩] false [0, 1, 5])
 (.seq (.seq (.region 0 [
 ⟨0, some 6, .mv (.k (.sc (.int .i64 0))), none, []⟩] false [0, 1, 5, 6])
 (.block 0 (decaniref00_Equal_L0)))
 (.seq (.region 0 [
 ⟨0, some 30, .mv (.t 5), none, []⟩,
 ⟨1, some 4, .mv (.t 30), none, []⟩] false [4])
 (.ret))))), false⟩

def decaniref00_Lies : Fn := ⟨3, 15, [(6, none)],
 (.seq (.region 0 [
 ⟨0, some 6, .mv (.k (.sc (.bool false))), none, []⟩] false [0, 1, 2])
 (.seq (.region 0 [
 ⟨0, some 7, .mv (.t 1), none, []⟩,
 ⟨1, some 8, .mv (.t 0), none, []⟩,
 ⟨2, some 9, .bin .leq (.t 7) (.t 8), none, []⟩,
 ⟨3, some 10, .mv (.t 9), none, []⟩,
 ⟨4, some 11, .mv (.t 0), some (10, true), []⟩,
 ⟨5, some 12, .mv (.t 2), some (10, true), []⟩,
 ⟨6, some 13, .bin .leq (.t 11) (.t 12), some (10, true), []⟩,
 ⟨7, some 14, .pick (.t 10) (.t 13) (.k (.sc (.bool false))), none, []⟩,
 ⟨8, some 6, .mv (.t 14), none, []⟩] false [6])
 (.ret))), false⟩

def decaniref00_Only : Fn := ⟨1, 6, [(2, some (some 2))],
 (.seq (.region 1 [
 ⟨0, some 2, .alloc 0 [.int .i64 0, .int .i64 0], none, []⟩] false [0, 2])
 (.seq (.region 0 [
 ⟨0, some 3, .mv (.t 0), none, []⟩,
 ⟨1, some 4, .mv (.t 0), none, []⟩,
 ⟨2, some 5, .build [.int .i64 0, .int .i64 0] [(0, 1, .t 3), (1, 1, .t 4)], none, []⟩,
 ⟨3, none, .store 2 (.t 2) (.t 5), none, []⟩] false [2])
 (.ret))), false⟩

def decaniref00_Bounds : Fn := ⟨2, 8, [(4, some (some 2))],
 (.seq (.region 1 [
 ⟨0, some 4, .alloc 0 [.int .i64 0, .int .i64 0], none, []⟩] false [0, 1, 4])
 (.seq (.region 0 [
 ⟨0, some 5, .mv (.t 0), none, []⟩,
 ⟨1, some 6, .mv (.t 1), none, []⟩,
 ⟨2, some 7, .build [.int .i64 0, .int .i64 0] [(0, 1, .t 5), (1, 1, .t 6)], none, []⟩,
 ⟨3, none, .store 2 (.t 4) (.t 7), none, []⟩] false [4])
 (.ret))), false⟩

def decaniref00_Bits_B0 : AC :=
 (.seq (.seq (.region 0 [
 ⟨0, some 8, .mv (.t 6), none, []⟩,
 ⟨1, some 9, .mv (.t 1), none, []⟩,
 ⟨2, some 10, .bin .lss (.t 8) (.t 9), none, []⟩] false [0, 1, 5, 6, 10])
 (.cond (.t 10)
 (.skip)
 (.exit 0)))
 (.seq (.block 1 (.seq (.region 0 [
 ⟨0, some 13, .mv (.t 0), none, []⟩,
 ⟨1, some 14, .mv (.t 6), none, []⟩,
 ⟨2, some 15, .call true (.f 65) [.t 13, .t 14], none, []⟩] false [0, 1, 5, 6, 15])
 (.cond (.t 15)
 (.region 0 [
 ⟨0, some 16, .mv (.tk 5), none, []⟩,
 ⟨1, some 17, .mv (.t 6), none, []⟩,
 ⟨2, some 18, .bslice 1 1 [.int .i64 0] [(0, .t 17)], none, []⟩,
 ⟨3, some 19, .append 1 (.tk 16) (.t 18), none, []⟩,
 ⟨4, some 5, .mv (.tk 19), none, []⟩] false [0, 1, 5, 6])
 (.skip))))
 (.region 0 [
 ⟨0, some 11, .mv (.t 6), none, []⟩,
 ⟨1, some 12, .bin .add (.t 11) (.k (.sc (.int .i64 1))), none, []⟩,
 ⟨2, some 6, .mv (.t 12), none, []⟩] false [0, 1, 5, 6])))
def decaniref00_Bits_L0 : AC := .loop [0, 1, 5, 6] decaniref00_Bits_B0
def decaniref00_Bits : Fn := ⟨2, 21, [(4, none)],
 (.seq (.region 0 [
 ⟨0, some 4, .mv (.k (.sc (.sl .nil 1 []))), none, []⟩] false [0, 1])
 (.seq (.region 0 [
 ⟨0, some 7, .bslice 1 0 [.int .i64 0] [], none, []⟩,
 ⟨1, some 5, .mv (.t 7), none, []⟩] false [0, 1, 5])
 (.seq (.seq (.region 0 [
 ⟨0, some 6, .mv (.k (.sc (.int .i64 0))), none, []⟩] false [0, 1, 5, 6])
 (.block 0 (decaniref00_Bits_L0)))
 (.seq (.region 0 [
 ⟨0, some 20, .mv (.t 5), none, []⟩,
 ⟨1, some 4, .mv (.t 20), none, []⟩] false [4])
 (.ret))))), false⟩

def decaniref00_Shorter : Fn := ⟨2, 22, [(4, none)],
 (.seq (.region 0 [
 ⟨0, some 4, .mv (.k (.sc (.bool false))), none, []⟩] false [0, 1])
 (.seq (.region 0 [
 ⟨0, some 5, .mv (.t 0), none, []⟩,
 ⟨1, some 6, .len 1 (.t 5), none, []⟩,
 ⟨2, some 7, .mv (.t 1), none, []⟩,
 ⟨3, some 8, .len 1 (.t 7), none, []⟩,
 ⟨4, some 9, .bin .lss (.t 6) (.t 8), none, []⟩,
 ⟨5, some 10, .mv (.t 9), none, []⟩,
 ⟨6, some 11, .mv (.t 0), some (10, false), []⟩,
 ⟨7, some 12, .len 1 (.t 11), some (10, false), []⟩,
 ⟨8, some 13, .mv (.t 1), some (10, false), []⟩,
 ⟨9, some 14, .len 1 (.t 13), some (10, false), []⟩,
 ⟨10, some 15, .bin .eql (.t 12) (.t 14), some (10, false), []⟩,
 ⟨11, some 16, .mv (.t 15), some (10, false), []⟩,
 ⟨12, some 17, .mv (.t 0), some (16, true), []⟩,
 ⟨13, some 18, .mv (.t 1), some (16, true), []⟩,
 ⟨14, some 19, .call true (.f 67) [.t 17, .t 18], some (16, true), []⟩,
 ⟨15, some 20, .pick (.t 16) (.t 19) (.k (.sc (.bool false))), some (10, false), []⟩,
 ⟨16, some 21, .pick (.t 10) (.k (.sc (.bool true))) (.t 20), none, []⟩,
 ⟨17, some 4, .mv (.t 21), none, []⟩] false [4])
 (.ret))), false⟩

def decanilaw06_own : Fn := ⟨0, 2, [(0, some (some 11))],
 (.seq (.region 1 [
 ⟨0, some 0, .alloc 0 [.int .i64 0, .int .i64 0, .int .i64 0, .int .i64 0, .int .i64 0, .int .i64 0, .int .i64 0, .int .i64 0, .sl .nil 5 [], .sl .nil 3 [], .sl .nil 4 []], none, []⟩] false [0])
 (.seq (.region 0 [
 ⟨0, some 1, .call true (.f 39) [.k (.sc (.sl .nil 4 []))], none, []⟩,
 ⟨1, none, .store 11 (.t 0) (.t 1), none, []⟩] false [0])
 (.ret))), false⟩

def decanilaw06_book : Fn := ⟨1, 23, [(2, some (some 11))],
 (.seq (.region 1 [
 ⟨0, some 2, .alloc 0 [.int .i64 0, .int .i64 0, .int .i64 0, .int .i64 0, .int .i64 0, .int .i64 0, .int .i64 0, .int .i64 0, .sl .nil 5 [], .sl .nil 3 [], .sl .nil 4 []], none, []⟩] false [0, 2])
 (.seq (.region 0 [
 ⟨0, some 3, .call true (.f 33) [.k (.sc (.int .i64 10)), .k (.sc (.int .i64 11))], none, []⟩,
 ⟨1, some 4, .call true (.f 30) [.k (.sc (.int .i64 30))], none, []⟩,
 ⟨2, some 5, .build [.int .i64 0, .int .i64 0, .int .i64 0, .int .i64 0] [(0, 2, .t 3), (2, 2, .t 4)], none, []⟩,
 ⟨3, some 6, .call true (.f 33) [.k (.sc (.int .i64 2)), .k (.sc (.int .i64 3))], none, []⟩,
 ⟨4, some 7, .call true (.f 30) [.k (.sc (.int .i64 4))], none, []⟩,
 ⟨5, some 8, .build [.int .i64 0, .int .i64 0, .int .i64 0, .int .i64 0] [(0, 2, .t 6), (2, 2, .t 7)], none, []⟩,
 ⟨6, some 9, .call true (.f 33) [.k (.sc (.int .i64 3)), .k (.sc (.int .i64 4))], none, []⟩,
 ⟨7, some 10, .build [.int .i64 0, .int .i64 0] [(0, 1, .k (.sc (.int .i64 2))), (1, 1, .k (.sc (.int .i64 6)))], none, []⟩,
 ⟨8, some 11, .build [.int .i64 0, .int .i64 0, .int .i64 0, .int .i64 0, .int .i64 0] [(0, 1, .k (.sc (.int .i64 4))), (1, 2, .t 9), (3, 2, .t 10)], none, []⟩,
 ⟨9, some 12, .call true (.f 30) [.k (.sc (.int .i64 5))], none, []⟩,
 ⟨10, some 13, .build [.int .i64 0, .int .i64 0] [(0, 1, .k (.sc (.int .i64 2))), (1, 1, .k (.sc (.int .i64 6)))], none, []⟩,
 ⟨11, some 14, .build [.int .i64 0, .int .i64 0, .int .i64 0, .int .i64 0, .int .i64 0] [(0, 1, .k (.sc (.int .i64 3))), (1, 2, .t 12), (3, 2, .t 13)], none, []⟩,
 ⟨12, some 15, .call true (.f 33) [.k (.sc (.int .i64 4)), .k (.sc (.int .i64 6))], none, []⟩,
 ⟨13, some 16, .build [.int .i64 0, .int .i64 0] [(0, 1, .k (.sc (.int .i64 4))), (1, 1, .k (.sc (.int .i64 6)))], none, []⟩,
 ⟨14, some 17, .build [.int .i64 0, .int .i64 0, .int .i64 0, .int .i64 0, .int .i64 0] [(0, 1, .k (.sc (.int .i64 6))), (1, 2, .t 15), (3, 2, .t 16)], none, []⟩,
 ⟨15, some 18, .bslice 5 3 [.int .i64 0, .int .i64 0, .int .i64 0, .int .i64 0, .int .i64 0] [(0, .t 11), (1, .t 14), (2, .t 17)], none, []⟩,
 ⟨16, some 19, .build [.int .i64 0, .int .i64 0, .int .i64 0] [(0, 1, .k (.sc (.int .i64 2))), (2, 1, .k (.sc (.int .i64 4)))], none, []⟩,
 ⟨17, some 20, .bslice 3 1 [.int .i64 0, .int .i64 0, .int .i64 0] [(0, .t 19)], none, []⟩,
 ⟨18, some 21, .mv (.t 0), none, []⟩,
 ⟨19, some 22, .build [.int .i64 0, .int .i64 0, .int .i64 0, .int .i64 0, .int .i64 0, .int .i64 0, .int .i64 0, .int .i64 0, .sl .nil 5 [], .sl .nil 3 [], .sl .nil 4 []] [(0, 4, .t 5), (4, 4, .t 8), (8, 1, .t 18), (9, 1, .t 20), (10, 1, .t 21)], none, []⟩,
 ⟨20, none, .store 11 (.t 2) (.t 22), none, []⟩] false [2])
 (.ret))), false⟩

def decanilaw06_torn : Fn := ⟨0, 5, [(0, some (some 11))],
 (.seq (.region 1 [
 ⟨0, some 0, .alloc 0 [.int .i64 0, .int .i64 0, .int .i64 0, .int .i64 0, .int .i64 0, .int .i64 0, .int .i64 0, .int .i64 0, .sl .nil 5 [], .sl .nil 3 [], .sl .nil 4 []], none, []⟩] false [0])
 (.seq (.region 0 [
 ⟨0, some 1, .build [.int .i64 0, .int .i64 0, .int .i64 0, .int .i64 0] [(2, 1, .k (.sc (.int .i64 8)))], none, []⟩,
 ⟨1, some 2, .build [.int .i64 0, .int .i64 0, .int .i64 0, .int .i64 0] [(0, 1, .k (.sc (.int .i64 1))), (2, 1, .k (.sc (.int .i64 3)))], none, []⟩,
 ⟨2, some 3, .bslice 4 2 [.int .i64 0, .int .i64 0, .int .i64 0, .int .i64 0] [(0, .t 1), (1, .t 2)], none, []⟩,
 ⟨3, some 4, .call true (.f 39) [.t 3], none, []⟩,
 ⟨4, none, .store 11 (.t 0) (.t 4), none, []⟩] false [0])
 (.ret))), false⟩

def decanilaw06_counted : Fn := ⟨0, 4, [(0, some (some 11))],
 (.seq (.region 1 [
 ⟨0, some 0, .alloc 0 [.int .i64 0, .int .i64 0, .int .i64 0, .int .i64 0, .int .i64 0, .int .i64 0, .int .i64 0, .int .i64 0, .sl .nil 5 [], .sl .nil 3 [], .sl .nil 4 []], none, []⟩] false [0])
 (.seq (.region 0 [
 ⟨0, some 1, .build [.int .i64 0, .int .i64 0, .int .i64 0, .int .i64 0] [(2, 1, .k (.sc (.int .i64 8)))], none, []⟩,
 ⟨1, some 2, .bslice 4 1 [.int .i64 0, .int .i64 0, .int .i64 0, .int .i64 0] [(0, .t 1)], none, []⟩,
 ⟨2, some 3, .call true (.f 39) [.t 2], none, []⟩,
 ⟨3, none, .store 11 (.t 0) (.t 3), none, []⟩] false [0])
 (.ret))), false⟩

def candle_opened_B0 : AC :=
 (.seq (.region 0 [
 ⟨0, some 20, .bin .lss (.t 19) (.t 18), none, []⟩] false [2, 3, 4, 5, 17, 18, 19, 20])
 (.seq (.cond (.t 20)
 (.skip)
 (.exit 0))
 (.seq (.block 1 (.seq (.region 1 [
 ⟨0, some 21, .iaddr 3 (.t 17) (.t 19), none, []⟩,
 ⟨1, some 22, .load (some 3) (.t 21), none, []⟩,
 ⟨2, some 7, .alloc 0 [.int .i64 0, .int .i64 0, .int .i64 0], none, []⟩,
 ⟨3, none, .store 3 (.t 7) (.t 22), none, []⟩] false [2, 3, 4, 5, 7, 17, 18, 19])
 (.seq (.region 1 [
 ⟨0, some 23, .faddr 1 (.t 7), none, []⟩,
 ⟨1, some 24, .load none (.t 23), none, []⟩,
 ⟨2, some 25, .faddr 0 (.t 7), none, []⟩,
 ⟨3, some 26, .load none (.t 25), none, []⟩,
 ⟨4, some 27, .build [.int .i64 0, .int .i64 0] [(0, 1, .t 24), (1, 1, .t 26)], none, []⟩,
 ⟨5, some 8, .alloc 0 [.int .i64 0, .int .i64 0], none, []⟩,
 ⟨6, none, .store 2 (.t 8) (.t 27), none, []⟩] false [2, 3, 4, 5, 7, 8, 17, 18, 19])
 (.seq (.region 0 [
 ⟨0, some 28, .load (some 2) (.t 8), none, []⟩,
 ⟨1, some 29, .load (some 2) (.g 1), none, []⟩,
 ⟨2, some 30, .eqf true ⟨true, [1, 1]⟩ (.t 28) (.t 29), none, []⟩] false [2, 3, 4, 5, 7, 8, 17, 18, 19, 30])
 (.cond (.t 30)
 (.region 0 [
 ⟨0, some 31, .faddr 11 (.t 5), none, []⟩,
 ⟨1, some 32, .load none (.t 31), none, []⟩,
 ⟨2, some 33, .load (some 2) (.t 8), none, []⟩,
 ⟨3, some 34, .lookup false ⟨true, [1, 1]⟩ (.sc (.int .i64 0)) (.t 32) (.t 33), none, []⟩,
 ⟨4, some 35, .faddr 2 (.t 7), none, []⟩,
 ⟨5, some 36, .load none (.t 35), none, []⟩,
 ⟨6, some 37, .bin .add (.t 34) (.t 36), none, []⟩,
 ⟨7, some 38, .ment ⟨true, [1, 1]⟩ (.sc (.int .i64 0)) (.t 32) (.t 33), none, [3]⟩,
 ⟨8, some 39, .ext (.t 38) 1, none, []⟩,
 ⟨9, none, .estore (.t 32) (.t 39) (.t 37), none, []⟩] true [2, 3, 4, 5, 17, 18, 19])
 (.skip))))))
 (.region 0 [
 ⟨0, some 40, .bin .add (.t 19) (.k (.sc (.int .i64 1))), none, []⟩,
 ⟨1, some 19, .mv (.t 40), none, []⟩] false [2, 3, 4, 5, 17, 18, 19]))))
def candle_opened_L0 : AC := .loop [2, 3, 4, 5, 17, 18, 19] candle_opened_B0
def candle_opened_A1 : AC :=
 (.seq (.region 1 [
 ⟨0, some 11, .alloc 0 [.int .i64 0, .int .i64 0], none, []⟩,
 ⟨1, none, .store 2 (.t 11) (.t 46), none, []⟩] false [10, 11, 47])
 (.region 1 [
 ⟨0, some 12, .alloc 0 [.int .i64 0, .int .i64 0], none, []⟩,
 ⟨1, none, .store 2 (.t 12) (.t 47), none, []⟩] false [10, 11, 12]))
def candle_opened_B1 : AC :=
 (.block 3 (.region 0 [
 ⟨0, some 48, .load none (.t 10), none, []⟩,
 ⟨1, some 49, .load (some 2) (.t 12), none, []⟩,
 ⟨2, some 50, .build [.int .i64 0, .int .i64 0, .int .i64 0, .int .i64 0, .int .i64 0, .int .i64 0, .int .i64 0, .int .i64 0, .int .i64 0, .int .i64 0, .int .i64 0, .int .i64 0, .int .i64 0, .int .i64 0, .int .i64 0, .int .i64 0, .int .i64 0] [(5, 2, .t 49)], none, []⟩,
 ⟨3, some 51, .load (some 2) (.t 11), none, []⟩,
 ⟨4, some 52, .call false (.t 48) [.t 50, .t 51, .k (.sc (.int .i64 0))], none, []⟩] false []))
def candle_opened : Fn := ⟨2, 54, [(4, some (some 13))],
 (.seq (.region 3 [
 ⟨0, some 2, .box 0 (.t 0), none, []⟩,
 ⟨1, some 3, .box 1 (.t 1), none, []⟩,
 ⟨2, some 4, .alloc 2 [.int .i64 0, .int .i64 0, .int .i64 0, .int .i64 0, .int .i64 0, .int .i64 0, .int .i64 0, .int .i64 0, .sl .nil 5 [], .sl .nil 3 [], .sl .nil 4 [], .imap true false [], .sl .nil 17 []], none, []⟩] false [2, 3, 4])
 (.frz 2 (.frz 3 (.seq (.region 2 [
 ⟨0, some 13, .load (some 11) (.t 2), none, []⟩,
 ⟨1, some 14, .mkmap 0 true false, none, []⟩,
 ⟨2, some 15, .build [.int .i64 0, .int .i64 0, .int .i64 0, .int .i64 0, .int .i64 0, .int .i64 0, .int .i64 0, .int .i64 0, .sl .nil 5 [], .sl .nil 3 [], .sl .nil 4 [], .imap true false [], .sl .nil 17 []] [(0, 11, .t 13), (11, 1, .t 14)], none, []⟩,
 ⟨3, some 5, .alloc 1 [.int .i64 0, .int .i64 0, .int .i64 0, .int .i64 0, .int .i64 0, .int .i64 0, .int .i64 0, .int .i64 0, .sl .nil 5 [], .sl .nil 3 [], .sl .nil 4 [], .imap true false [], .sl .nil 17 []], none, []⟩,
 ⟨4, none, .store 13 (.t 5) (.t 15), none, []⟩] false [2, 3, 4, 5])
 (.seq (.seq (.region 0 [
 ⟨0, some 16, .faddr 9 (.t 2), none, []⟩,
 ⟨1, some 17, .load none (.t 16), none, []⟩,
 ⟨2, some 18, .len 1 (.t 17), none, []⟩,
 ⟨3, some 19, .mv (.k (.sc (.int .i64 0))), none, []⟩] false [2, 3, 4, 5, 17, 18, 19])
 (.block 0 (candle_opened_L0)))
 (.frzc 5 (.seq (.region 1 [
 ⟨0, some 41, .load (some 13) (.t 5), none, []⟩,
 ⟨1, some 42, .mkf 68 [some 13] [.t 41] [], none, []⟩,
 ⟨2, some 9, .alloc 0 [.nilf], none, []⟩,
 ⟨3, none, .store 1 (.t 9) (.t 42), none, []⟩] false [2, 3, 4, 5, 9])
 (.frz 9 (.seq (.region 1 [
 ⟨0, some 10, .alloc 0 [.nilf], none, []⟩] false [2, 3, 4, 5, 9, 10])
 (.seq (.region 0 [
 ⟨0, some 43, .mkf 69 [] [] [.t 2, .t 5, .t 9, .t 3, .t 10], none, []⟩,
 ⟨1, none, .store 1 (.t 10) (.t 43), none, []⟩] false [4, 5, 10])
 (.seq (.seq (.region 0 [
 ⟨0, some 44, .load (some 13) (.t 5), none, []⟩,
 ⟨1, some 45, .call true (.f 70) [.t 44], none, []⟩] false [4, 5, 10, 45])
 (.block 2 (.rfunc (.t 45) [46, 47] candle_opened_A1 candle_opened_B1)))
 (.seq (.region 0 [
 ⟨0, some 53, .load (some 13) (.t 5), none, []⟩,
 ⟨1, none, .store 13 (.t 4) (.t 53), none, []⟩] false [4])
 (.ret))))))))))))), false⟩

def decaniref06_truths_B0 : AC :=
 (.seq (.seq (.region 0 [
 ⟨0, some 12, .mv (.t 7), none, []⟩,
 ⟨1, some 13, .mv (.t 6), none, []⟩,
 ⟨2, some 14, .len 1 (.t 13), none, []⟩,
 ⟨3, some 15, .bin .lss (.t 12) (.t 14), none, []⟩] false [1, 2, 4, 5, 6, 7, 15])
 (.cond (.t 15)
 (.skip)
 (.exit 0)))
 (.seq (.block 1 (.seq (.region 0 [
 ⟨0, some 18, .load (some 11) (.t 2), none, []⟩,
 ⟨1, some 19, .mv (.t 6), none, []⟩,
 ⟨2, some 20, .mv (.t 7), none, []⟩,
 ⟨3, some 21, .iaddr 1 (.t 19) (.t 20), none, []⟩,
 ⟨4, some 22, .load none (.t 21), none, []⟩,
 ⟨5, some 23, .mv (.t 1), none, []⟩,
 ⟨6, some 24, .call true (.f 72) [.t 18, .k (.sc (.int .i64 0)), .t 22, .t 23], none, []⟩,
 ⟨7, some 25, .load (some 11) (.t 2), none, []⟩,
 ⟨8, some 26, .mv (.t 6), none, []⟩,
 ⟨9, some 27, .mv (.t 7), none, []⟩,
 ⟨10, some 28, .iaddr 1 (.t 26) (.t 27), none, []⟩,
 ⟨11, some 29, .load none (.t 28), none, []⟩,
 ⟨12, some 30, .mv (.t 1), none, []⟩,
 ⟨13, some 31, .call true (.f 72) [.t 25, .k (.sc (.int .i64 1)), .t 29, .t 30], none, []⟩,
 ⟨14, some 8, .mv (.t 24), none, []⟩,
 ⟨15, some 9, .mv (.t 31), none, []⟩] true [1, 2, 4, 5, 6, 7, 8, 9])
 (.seq (.region 0 [
 ⟨0, some 32, .mv (.t 8), none, []⟩,
 ⟨1, some 33, .len 1 (.t 32), none, []⟩,
 ⟨2, some 34, .bin .gtr (.t 33) (.k (.sc (.int .i64 0))), none, []⟩,
 ⟨3, some 35, .mv (.t 34), none, []⟩,
 ⟨4, some 36, .mv (.t 9), some (35, true), []⟩,
 ⟨5, some 37, .len 1 (.t 36), some (35, true), []⟩,
 ⟨6, some 38, .bin .gtr (.t 37) (.k (.sc (.int .i64 0))), some (35, true), []⟩,
 ⟨7, some 39, .pick (.t 35) (.t 38) (.k (.sc (.bool false))), none, []⟩] false [1, 2, 4, 5, 6, 7, 8, 9, 39])
 (.cond (.t 39)
 (.region 0 [
 ⟨0, some 40, .iarr 2 1 (.t 5) (.k (.sc (.int .i64 0))), none, []⟩,
 ⟨1, some 41, .loadT (.t 40), none, []⟩,
 ⟨2, some 42, .mv (.t 8), none, []⟩,
 ⟨3, some 43, .append 3 (.tk 41) (.t 42), none, []⟩,
 ⟨4, some 44, .iarr 2 1 (.t 5) (.k (.sc (.int .i64 1))), none, []⟩,
 ⟨5, some 45, .loadT (.t 44), none, [1]⟩,
 ⟨6, some 46, .mv (.t 9), none, []⟩,
 ⟨7, some 47, .append 3 (.tk 45) (.t 46), none, []⟩,
 ⟨8, some 48, .iarr 2 1 (.t 5) (.k (.sc (.int .i64 0))), none, []⟩,
 ⟨9, none, .store 1 (.t 48) (.tk 43), none, []⟩,
 ⟨10, some 49, .iarr 2 1 (.t 5) (.k (.sc (.int .i64 1))), none, []⟩,
 ⟨11, none, .store 1 (.t 49) (.tk 47), none, []⟩] true [1, 2, 4, 5, 6, 7])
 (.skip)))))
 (.region 0 [
 ⟨0, some 16, .mv (.t 7), none, []⟩,
 ⟨1, some 17, .bin .add (.t 16) (.k (.sc (.int .i64 1))), none, []⟩,
 ⟨2, some 7, .mv (.t 17), none, []⟩] false [1, 2, 4, 5, 6, 7])))
def decaniref06_truths_L0 : AC := .loop [1, 2, 4, 5, 6, 7] decaniref06_truths_B0
def decaniref06_truths : Fn := ⟨2, 51, [(4, some (some 2))],
 (.seq (.region 2 [
 ⟨0, some 2, .box 0 (.t 0), none, []⟩,
 ⟨1, some 4, .alloc 1 [.sl .nil 3 [], .sl .nil 3 []], none, []⟩] false [1, 2, 4])
 (.seq (.region 1 [
 ⟨0, some 5, .alloc 0 [.sl .nil 3 [], .sl .nil 3 []], none, []⟩] false [1, 2, 4, 5])
 (.seq (.region 0 [
 ⟨0, some 10, .load (some 11) (.t 2), none, []⟩,
 ⟨1, some 11, .call true (.f 71) [.t 10, .k (.sc (.sl .nil 1 []))], none, []⟩,
 ⟨2, some 6, .mv (.t 11), none, []⟩] false [1, 2, 4, 5, 6])
 (.seq (.seq (.region 0 [
 ⟨0, some 7, .mv (.k (.sc (.int .i64 0))), none, []⟩] false [1, 2, 4, 5, 6, 7])
 (.block 0 (decaniref06_truths_L0)))
 (.seq (.region 0 [
 ⟨0, some 50, .load (some 2) (.t 5), none, []⟩,
 ⟨1, none, .store 2 (.t 4) (.t 50), none, []⟩] false [4])
 (.ret)))))), false⟩

def candle_within : Fn := ⟨3, 15, [(6, none)],
 (.seq (.region 0 [
 ⟨0, some 6, .mv (.k (.sc (.bool false))), none, []⟩] false [0, 1, 2])
 (.seq (.region 0 [
 ⟨0, some 7, .mv (.t 1), none, []⟩,
 ⟨1, some 8, .mv (.t 0), none, []⟩,
 ⟨2, some 9, .bin .leq (.t 7) (.t 8), none, []⟩,
 ⟨3, some 10, .mv (.t 9), none, []⟩,
 ⟨4, some 11, .mv (.t 0), some (10, true), []⟩,
 ⟨5, some 12, .mv (.t 2), some (10, true), []⟩,
 ⟨6, some 13, .bin .leq (.t 11) (.t 12), some (10, true), []⟩,
 ⟨7, some 14, .pick (.t 10) (.t 13) (.k (.sc (.bool false))), none, []⟩,
 ⟨8, some 6, .mv (.t 14), none, []⟩] false [6])
 (.ret))), false⟩

def candle_isSpan : Fn := ⟨4, 35, [(8, none)],
 (.seq (.region 1 [
 ⟨0, some 4, .box 0 (.t 0), none, []⟩,
 ⟨1, some 8, .mv (.k (.sc (.bool false))), none, []⟩] false [1, 2, 3, 4])
 (.seq (.region 0 [
 ⟨0, some 9, .mv (.t 1), none, []⟩,
 ⟨1, some 10, .faddr 0 (.t 4), none, []⟩,
 ⟨2, some 11, .load none (.t 10), none, []⟩,
 ⟨3, some 12, .bin .leq (.t 9) (.t 11), none, []⟩,
 ⟨4, some 13, .mv (.t 12), none, []⟩,
 ⟨5, some 14, .faddr 0 (.t 4), some (13, true), []⟩,
 ⟨6, some 15, .load none (.t 14), some (13, true), []⟩,
 ⟨7, some 16, .faddr 1 (.t 4), some (13, true), []⟩,
 ⟨8, some 17, .load none (.t 16), some (13, true), []⟩,
 ⟨9, some 18, .bin .leq (.t 15) (.t 17), some (13, true), []⟩,
 ⟨10, some 19, .pick (.t 13) (.t 18) (.k (.sc (.bool false))), none, []⟩,
 ⟨11, some 20, .mv (.t 19), none, []⟩,
 ⟨12, some 21, .faddr 1 (.t 4), some (20, true), []⟩,
 ⟨13, some 22, .load none (.t 21), some (20, true), []⟩,
 ⟨14, some 23, .mv (.t 2), some (20, true), []⟩,
 ⟨15, some 24, .bin .leq (.t 22) (.t 23), some (20, true), []⟩,
 ⟨16, some 25, .pick (.t 20) (.t 24) (.k (.sc (.bool false))), none, []⟩,
 ⟨17, some 26, .mv (.t 25), none, []⟩,
 ⟨18, some 27, .faddr 1 (.t 4), some (26, true), []⟩,
 ⟨19, some 28, .load none (.t 27), some (26, true), []⟩,
 ⟨20, some 29, .faddr 0 (.t 4), some (26, true), []⟩,
 ⟨21, some 30, .load none (.t 29), some (26, true), []⟩,
 ⟨22, some 31, .bin .sub (.t 28) (.t 30), some (26, true), []⟩,
 ⟨23, some 32, .mv (.t 3), some (26, true), []⟩,
 ⟨24, some 33, .bin .leq (.t 31) (.t 32), some (26, true), []⟩,
 ⟨25, some 34, .pick (.t 26) (.t 33) (.k (.sc (.bool false))), none, []⟩,
 ⟨26, some 8, .mv (.t 34), none, []⟩] false [8])
 (.ret))), false⟩

def candle_isDay : Fn := ⟨2, 11, [(4, none)],
 (.seq (.region 1 [
 ⟨0, some 2, .box 0 (.t 0), none, []⟩,
 ⟨1, some 4, .mv (.k (.sc (.bool false))), none, []⟩] false [1, 2])
 (.seq (.region 0 [
 ⟨0, some 5, .mv (.t 1), none, []⟩,
 ⟨1, some 6, .faddr 8 (.t 2), none, []⟩,
 ⟨2, some 7, .load none (.t 6), none, []⟩,
 ⟨3, some 8, .len 1 (.t 7), none, []⟩,
 ⟨4, some 9, .bin .sub (.t 8) (.k (.sc (.int .i64 1))), none, []⟩,
 ⟨5, some 10, .call true (.f 44) [.t 5, .k (.sc (.int .i64 0)), .t 9], none, []⟩,
 ⟨6, some 4, .mv (.t 10), none, []⟩] false [4])
 (.ret))), false⟩

def candle_isKind : Fn := ⟨1, 5, [(2, none)],
 (.seq (.region 0 [
 ⟨0, some 2, .mv (.k (.sc (.bool false))), none, []⟩] false [0])
 (.seq (.region 0 [
 ⟨0, some 3, .mv (.t 0), none, []⟩,
 ⟨1, some 4, .call true (.f 44) [.t 3, .k (.sc (.int .i64 0)), .k (.sc (.int .i64 1))], none, []⟩,
 ⟨2, some 2, .mv (.t 4), none, []⟩] false [2])
 (.ret))), false⟩

def candle_isCount : Fn := ⟨2, 24, [(4, none)],
 (.seq (.region 2 [
 ⟨0, some 2, .box 0 (.t 0), none, []⟩,
 ⟨1, some 3, .box 1 (.t 1), none, []⟩,
 ⟨2, some 4, .mv (.k (.sc (.bool false))), none, []⟩] false [2, 3])
 (.seq (.region 0 [
 ⟨0, some 5, .load (some 11) (.t 2), none, []⟩,
 ⟨1, some 6, .faddr 0 (.t 3), none, []⟩,
 ⟨2, some 7, .load none (.t 6), none, []⟩,
 ⟨3, some 8, .call true (.f 46) [.t 5, .t 7], none, []⟩,
 ⟨4, some 9, .mv (.t 8), none, []⟩,
 ⟨5, some 10, .faddr 1 (.t 3), some (9, true), []⟩,
 ⟨6, some 11, .load none (.t 10), some (9, true), []⟩,
 ⟨7, some 12, .call true (.f 47) [.t 11], some (9, true), []⟩,
 ⟨8, some 13, .pick (.t 9) (.t 12) (.k (.sc (.bool false))), none, []⟩,
 ⟨9, some 14, .mv (.t 13), none, []⟩,
 ⟨10, some 15, .faddr 2 (.t 3), some (14, true), []⟩,
 ⟨11, some 16, .load none (.t 15), some (14, true), []⟩,
 ⟨12, some 17, .call true (.f 44) [.t 16, .k (.sc (.int .i64 (-300))), .k (.sc (.int .i64 300))], some (14, true), []⟩,
 ⟨13, some 18, .pick (.t 14) (.t 17) (.k (.sc (.bool false))), none, []⟩,
 ⟨14, some 19, .mv (.t 18), none, []⟩,
 ⟨15, some 20, .faddr 3 (.t 3), some (19, true), []⟩,
 ⟨16, some 21, .load none (.t 20), some (19, true), []⟩,
 ⟨17, some 22, .call true (.f 44) [.t 21, .k (.sc (.int .i64 0)), .k (.sc (.int .i64 5))], some (19, true), []⟩,
 ⟨18, some 23, .pick (.t 19) (.t 22) (.k (.sc (.bool false))), none, []⟩,
 ⟨19, some 4, .mv (.t 23), none, []⟩] false [4])
 (.ret))), false⟩

def decaniref00_Fair : Fn := ⟨4, 35, [(8, none)],
 (.seq (.region 1 [
 ⟨0, some 4, .box 0 (.t 0), none, []⟩,
 ⟨1, some 8, .mv (.k (.sc (.bool false))), none, []⟩] false [1, 2, 3, 4])
 (.seq (.region 0 [
 ⟨0, some 9, .mv (.t 1), none, []⟩,
 ⟨1, some 10, .faddr 0 (.t 4), none, []⟩,
 ⟨2, some 11, .load none (.t 10), none, []⟩,
 ⟨3, some 12, .bin .leq (.t 9) (.t 11), none, []⟩,
 ⟨4, some 13, .mv (.t 12), none, []⟩,
 ⟨5, some 14, .faddr 0 (.t 4), some (13, true), []⟩,
 ⟨6, some 15, .load none (.t 14), some (13, true), []⟩,
 ⟨7, some 16, .faddr 1 (.t 4), some (13, true), []⟩,
 ⟨8, some 17, .load none (.t 16), some (13, true), []⟩,
 ⟨9, some 18, .bin .leq (.t 15) (.t 17), some (13, true), []⟩,
 ⟨10, some 19, .pick (.t 13) (.t 18) (.k (.sc (.bool false))), none, []⟩,
 ⟨11, some 20, .mv (.t 19), none, []⟩,
 ⟨12, some 21, .faddr 1 (.t 4), some (20, true), []⟩,
 ⟨13, some 22, .load none (.t 21), some (20, true), []⟩,
 ⟨14, some 23, .mv (.t 2), some (20, true), []⟩,
 ⟨15, some 24, .bin .leq (.t 22) (.t 23), some (20, true), []⟩,
 ⟨16, some 25, .pick (.t 20) (.t 24) (.k (.sc (.bool false))), none, []⟩,
 ⟨17, some 26, .mv (.t 25), none, []⟩,
 ⟨18, some 27, .faddr 1 (.t 4), some (26, true), []⟩,
 ⟨19, some 28, .load none (.t 27), some (26, true), []⟩,
 ⟨20, some 29, .faddr 0 (.t 4), some (26, true), []⟩,
 ⟨21, some 30, .load none (.t 29), some (26, true), []⟩,
 ⟨22, some 31, .bin .sub (.t 28) (.t 30), some (26, true), []⟩,
 ⟨23, some 32, .mv (.t 3), some (26, true), []⟩,
 ⟨24, some 33, .bin .leq (.t 31) (.t 32), some (26, true), []⟩,
 ⟨25, some 34, .pick (.t 26) (.t 33) (.k (.sc (.bool false))), none, []⟩,
 ⟨26, some 8, .mv (.t 34), none, []⟩] false [8])
 (.ret))), false⟩

def decaniref06_isDay : Fn := ⟨2, 11, [(4, none)],
 (.seq (.region 1 [
 ⟨0, some 2, .box 0 (.t 0), none, []⟩,
 ⟨1, some 4, .mv (.k (.sc (.bool false))), none, []⟩] false [1, 2])
 (.seq (.region 0 [
 ⟨0, some 5, .mv (.t 1), none, []⟩,
 ⟨1, some 6, .faddr 8 (.t 2), none, []⟩,
 ⟨2, some 7, .load none (.t 6), none, []⟩,
 ⟨3, some 8, .len 1 (.t 7), none, []⟩,
 ⟨4, some 9, .bin .sub (.t 8) (.k (.sc (.int .i64 1))), none, []⟩,
 ⟨5, some 10, .call true (.f 29) [.t 5, .k (.sc (.int .i64 0)), .t 9], none, []⟩,
 ⟨6, some 4, .mv (.t 10), none, []⟩] false [4])
 (.ret))), false⟩

def decaniref06_isKind : Fn := ⟨1, 5, [(2, none)],
 (.seq (.region 0 [
 ⟨0, some 2, .mv (.k (.sc (.bool false))), none, []⟩] false [0])
 (.seq (.region 0 [
 ⟨0, some 3, .mv (.t 0), none, []⟩,
 ⟨1, some 4, .call true (.f 29) [.t 3, .k (.sc (.int .i64 0)), .k (.sc (.int .i64 1))], none, []⟩,
 ⟨2, some 2, .mv (.t 4), none, []⟩] false [2])
 (.ret))), false⟩

def decaniref06_isCount : Fn := ⟨2, 24, [(4, none)],
 (.seq (.region 2 [
 ⟨0, some 2, .box 0 (.t 0), none, []⟩,
 ⟨1, some 3, .box 1 (.t 1), none, []⟩,
 ⟨2, some 4, .mv (.k (.sc (.bool false))), none, []⟩] false [2, 3])
 (.seq (.region 0 [
 ⟨0, some 5, .load (some 11) (.t 2), none, []⟩,
 ⟨1, some 6, .faddr 0 (.t 3), none, []⟩,
 ⟨2, some 7, .load none (.t 6), none, []⟩,
 ⟨3, some 8, .call true (.f 50) [.t 5, .t 7], none, []⟩,
 ⟨4, some 9, .mv (.t 8), none, []⟩,
 ⟨5, some 10, .faddr 1 (.t 3), some (9, true), []⟩,
 ⟨6, some 11, .load none (.t 10), some (9, true), []⟩,
 ⟨7, some 12, .call true (.f 51) [.t 11], some (9, true), []⟩,
 ⟨8, some 13, .pick (.t 9) (.t 12) (.k (.sc (.bool false))), none, []⟩,
 ⟨9, some 14, .mv (.t 13), none, []⟩,
 ⟨10, some 15, .faddr 2 (.t 3), some (14, true), []⟩,
 ⟨11, some 16, .load none (.t 15), some (14, true), []⟩,
 ⟨12, some 17, .call true (.f 29) [.t 16, .k (.sc (.int .i64 (-300))), .k (.sc (.int .i64 300))], some (14, true), []⟩,
 ⟨13, some 18, .pick (.t 14) (.t 17) (.k (.sc (.bool false))), none, []⟩,
 ⟨14, some 19, .mv (.t 18), none, []⟩,
 ⟨15, some 20, .faddr 3 (.t 3), some (19, true), []⟩,
 ⟨16, some 21, .load none (.t 20), some (19, true), []⟩,
 ⟨17, some 22, .call true (.f 29) [.t 21, .k (.sc (.int .i64 0)), .k (.sc (.int .i64 5))], some (19, true), []⟩,
 ⟨18, some 23, .pick (.t 19) (.t 22) (.k (.sc (.bool false))), none, []⟩,
 ⟨19, some 4, .mv (.t 23), none, []⟩] false [4])
 (.ret))), false⟩

def candle_asked : Fn := ⟨2, 25, [(4, some (some 13)), (5, none)],
 (.seq (.region 2 [
 ⟨0, some 2, .box 0 (.t 0), none, []⟩,
 ⟨1, some 4, .alloc 1 [.int .i64 0, .int .i64 0, .int .i64 0, .int .i64 0, .int .i64 0, .int .i64 0, .int .i64 0, .int .i64 0, .sl .nil 5 [], .sl .nil 3 [], .sl .nil 4 [], .imap true false [], .sl .nil 17 []], none, []⟩,
 ⟨2, some 5, .mv (.k (.sc (.int .i64 0))), none, []⟩] false [1, 2, 4])
 (.seq (.seq (.region 0 [
 ⟨0, some 8, .load (some 11) (.t 2), none, []⟩,
 ⟨1, some 9, .call true (.f 4) [.t 8], none, []⟩,
 ⟨2, some 6, .mv (.t 9), none, []⟩] false [1, 2, 4, 6])
 (.seq (.region 0 [
 ⟨0, some 10, .mv (.t 6), none, []⟩,
 ⟨1, some 11, .bin .neq (.t 10) (.k (.sc (.int .i64 0))), none, []⟩] false [1, 2, 4, 6, 11])
 (.cond (.t 11)
 (.seq (.region 0 [
 ⟨0, some 12, .build [.int .i64 0, .int .i64 0, .int .i64 0, .int .i64 0, .int .i64 0, .int .i64 0, .int .i64 0, .int .i64 0, .sl .nil 5 [], .sl .nil 3 [], .sl .nil 4 [], .imap true false [], .sl .nil 17 []] [], none, []⟩,
 ⟨1, some 13, .mv (.t 6), none, []⟩,
 ⟨2, none, .store 13 (.t 4) (.t 12), none, []⟩,
 ⟨3, some 5, .mv (.t 13), none, []⟩] false [4, 5])
 (.ret))
 (.skip))))
 (.seq (.seq (.region 0 [
 ⟨0, some 14, .mv (.t 1), none, []⟩,
 ⟨1, some 15, .un .not (.t 14), none, []⟩] false [2, 4, 15])
 (.cond (.t 15)
 (.seq (.region 0 [
 ⟨0, some 16, .build [.int .i64 0, .int .i64 0, .int .i64 0, .int .i64 0, .int .i64 0, .int .i64 0, .int .i64 0, .int .i64 0, .sl .nil 5 [], .sl .nil 3 [], .sl .nil 4 [], .imap true false [], .sl .nil 17 []] [], none, []⟩,
 ⟨1, none, .store 13 (.t 4) (.t 16), none, []⟩,
 ⟨2, some 5, .mv (.k (.sc (.int .i64 61))), none, []⟩] false [4, 5])
 (.ret))
 (.skip)))
 (.seq (.region 1 [
 ⟨0, some 17, .load (some 11) (.t 2), none, []⟩,
 ⟨1, some 18, .call true (.f 42) [.t 17, .k (.sc (.sl .nil 1 []))], none, []⟩,
 ⟨2, some 7, .alloc 0 [.int .i64 0, .int .i64 0, .int .i64 0, .int .i64 0, .int .i64 0, .int .i64 0, .int .i64 0, .int .i64 0, .sl .nil 5 [], .sl .nil 3 [], .sl .nil 4 [], .imap true false [], .sl .nil 17 []], none, []⟩,
 ⟨3, none, .store 13 (.t 7) (.t 18), none, []⟩] false [4, 7])
 (.seq (.seq (.region 0 [
 ⟨0, some 19, .faddr 12 (.t 7), none, []⟩,
 ⟨1, some 20, .load none (.t 19), none, []⟩,
 ⟨2, some 21, .len 1 (.t 20), none, []⟩,
 ⟨3, some 22, .bin .eql (.t 21) (.k (.sc (.int .i64 0))), none, []⟩] false [4, 7, 22])
 (.cond (.t 22)
 (.seq (.region 0 [
 ⟨0, some 23, .load (some 13) (.t 7), none, []⟩,
 ⟨1, none, .store 13 (.t 4) (.t 23), none, []⟩,
 ⟨2, some 5, .mv (.k (.sc (.int .i64 62))), none, []⟩] false [4, 5])
 (.ret))
 (.skip)))
 (.seq (.region 0 [
 ⟨0, some 24, .load (some 13) (.t 7), none, []⟩,
 ⟨1, none, .store 13 (.t 4) (.t 24), none, []⟩,
 ⟨2, some 5, .mv (.k (.sc (.int .i64 0))), none, []⟩] false [4, 5])
 (.ret))))))), false⟩

def candle_book_left : Fn := ⟨3, 11, [(6, some (some 2))],
 (.seq (.region 4 [
 ⟨0, some 3, .box 0 (.t 0), none, []⟩,
 ⟨1, some 4, .box 1 (.t 1), none, []⟩,
 ⟨2, some 5, .box 2 (.t 2), none, []⟩,
 ⟨3, some 6, .alloc 3 [.int .i64 0, .int .i64 0], none, []⟩] false [3, 4, 5, 6])
 (.frz 4 (.frz 5 (.seq (.region 0 [
 ⟨0, some 7, .load (some 13) (.t 3), none, []⟩,
 ⟨1, some 8, .mkf 73 [] [] [.t 5, .t 4], none, []⟩,
 ⟨2, some 9, .build [.nilf] [(0, 1, .t 8)], none, []⟩,
 ⟨3, some 10, .call true (.f 58) [.t 7, .t 9], none, []⟩,
 ⟨4, none, .store 2 (.t 6) (.t 10), none, []⟩] false [6])
 (.ret))))), false⟩

def decaniref06_asked : Fn := ⟨2, 25, [(4, some (some 2)), (5, none)],
 (.seq (.region 2 [
 ⟨0, some 2, .box 0 (.t 0), none, []⟩,
 ⟨1, some 4, .alloc 1 [.sl .nil 3 [], .sl .nil 3 []], none, []⟩,
 ⟨2, some 5, .mv (.k (.sc (.int .i64 0))), none, []⟩] false [1, 2, 4])
 (.seq (.seq (.region 0 [
 ⟨0, some 8, .load (some 11) (.t 2), none, []⟩,
 ⟨1, some 9, .call true (.f 5) [.t 8], none, []⟩,
 ⟨2, some 6, .mv (.t 9), none, []⟩] false [1, 2, 4, 6])
 (.seq (.region 0 [
 ⟨0, some 10, .mv (.t 6), none, []⟩,
 ⟨1, some 11, .bin .neq (.t 10) (.k (.sc (.int .i64 0))), none, []⟩] false [1, 2, 4, 6, 11])
 (.cond (.t 11)
 (.seq (.region 0 [
 ⟨0, some 12, .build [.sl .nil 3 [], .sl .nil 3 []] [], none, []⟩,
 ⟨1, some 13, .mv (.t 6), none, []⟩,
 ⟨2, none, .store 2 (.t 4) (.t 12), none, []⟩,
 ⟨3, some 5, .mv (.t 13), none, []⟩] false [4, 5])
 (.ret))
 (.skip))))
 (.seq (.seq (.region 0 [
 ⟨0, some 14, .mv (.t 1), none, []⟩,
 ⟨1, some 15, .un .not (.t 14), none, []⟩] false [2, 4, 15])
 (.cond (.t 15)
 (.seq (.region 0 [
 ⟨0, some 16, .build [.sl .nil 3 [], .sl .nil 3 []] [], none, []⟩,
 ⟨1, none, .store 2 (.t 4) (.t 16), none, []⟩,
 ⟨2, some 5, .mv (.k (.sc (.int .i64 61))), none, []⟩] false [4, 5])
 (.ret))
 (.skip)))
 (.seq (.region 1 [
 ⟨0, some 17, .load (some 11) (.t 2), none, []⟩,
 ⟨1, some 18, .call true (.f 43) [.t 17, .k (.sc (.int .i64 0))], none, []⟩,
 ⟨2, some 7, .alloc 0 [.sl .nil 3 [], .sl .nil 3 []], none, []⟩,
 ⟨3, none, .store 2 (.t 7) (.t 18), none, []⟩] false [4, 7])
 (.seq (.seq (.region 0 [
 ⟨0, some 19, .iarr 2 1 (.t 7) (.k (.sc (.int .i64 0))), none, []⟩,
 ⟨1, some 20, .load none (.t 19), none, []⟩,
 ⟨2, some 21, .len 1 (.t 20), none, []⟩,
 ⟨3, some 22, .bin .eql (.t 21) (.k (.sc (.int .i64 0))), none, []⟩] false [4, 7, 22])
 (.cond (.t 22)
 (.seq (.region 0 [
 ⟨0, some 23, .load (some 2) (.t 7), none, []⟩,
 ⟨1, none, .store 2 (.t 4) (.t 23), none, []⟩,
 ⟨2, some 5, .mv (.k (.sc (.int .i64 62))), none, []⟩] false [4, 5])
 (.ret))
 (.skip)))
 (.seq (.region 0 [
 ⟨0, some 24, .load (some 2) (.t 7), none, []⟩,
 ⟨1, none, .store 2 (.t 4) (.t 24), none, []⟩,
 ⟨2, some 5, .mv (.k (.sc (.int .i64 0))), none, []⟩] false [4, 5])
 (.ret))))))), false⟩

def candle_book_span_B0 : AC :=
 (.seq (.region 0 [
 ⟨0, some 23, .bin .lss (.t 22) (.t 21), none, []⟩] false [3, 4, 6, 20, 21, 22, 23])
 (.seq (.cond (.t 23)
 (.skip)
 (.exit 0))
 (.seq (.block 1 (.seq (.region 1 [
 ⟨0, some 24, .iaddr 17 (.t 20) (.t 22), none, []⟩,
 ⟨1, some 25, .load (some 17) (.t 24), none, []⟩,
 ⟨2, some 8, .alloc 0 [.int .i64 0, .int .i64 0, .int .i64 0, .int .i64 0, .int .i64 0, .int .i64 0, .int .i64 0, .int .i64 0, .int .i64 0, .int .i64 0, .int .i64 0, .int .i64 0, .int .i64 0, .int .i64 0, .int .i64 0, .int .i64 0, .int .i64 0], none, []⟩,
 ⟨3, none, .store 17 (.t 8) (.t 25), none, []⟩] false [3, 4, 6, 8, 20, 21, 22])
 (.region 0 [
 ⟨0, some 26, .faddr 0 (.t 6), none, []⟩,
 ⟨1, some 27, .load none (.t 26), none, []⟩,
 ⟨2, some 28, .faddr 0 (.t 3), none, []⟩,
 ⟨3, some 29, .load none (.t 28), none, []⟩,
 ⟨4, some 30, .load (some 17) (.t 8), none, []⟩,
 ⟨5, some 31, .call true (.t 29) [.t 30], none, []⟩,
 ⟨6, some 32, .min (.t 27) [.t 31], none, []⟩,
 ⟨7, some 33, .faddr 1 (.t 6), none, []⟩,
 ⟨8, some 34, .load none (.t 33), none, []⟩,
 ⟨9, some 35, .faddr 0 (.t 3), none, []⟩,
 ⟨10, some 36, .load none (.t 35), none, []⟩,
 ⟨11, some 37, .load (some 17) (.t 8), none, []⟩,
 ⟨12, some 38, .call true (.t 36) [.t 37], none, []⟩,
 ⟨13, some 39, .max (.t 34) [.t 38], none, []⟩,
 ⟨14, some 40, .build [.int .i64 0, .int .i64 0] [(0, 1, .t 32), (1, 1, .t 39)], none, []⟩,
 ⟨15, none, .store 2 (.t 6) (.t 40), none, []⟩] true [3, 4, 6, 20, 21, 22])))
 (.region 0 [
 ⟨0, some 41, .bin .add (.t 22) (.k (.sc (.int .i64 1))), none, []⟩,
 ⟨1, some 22, .mv (.t 41), none, []⟩] false [3, 4, 6, 20, 21, 22]))))
def candle_book_span_L0 : AC := .loop [3, 4, 6, 20, 21, 22] candle_book_span_B0
def candle_book_span : Fn := ⟨2, 43, [(4, some (some 2))],
 (.seq (.region 3 [
 ⟨0, some 2, .box 0 (.t 0), none, []⟩,
 ⟨1, some 3, .box 1 (.t 1), none, []⟩,
 ⟨2, some 4, .alloc 2 [.int .i64 0, .int .i64 0], none, []⟩] false [2, 3, 4])
 (.seq (.region 0 [
 ⟨0, some 9, .faddr 0 (.t 3), none, []⟩,
 ⟨1, some 10, .load none (.t 9), none, []⟩,
 ⟨2, some 11, .faddr 12 (.t 2), none, []⟩,
 ⟨3, some 12, .load none (.t 11), none, []⟩,
 ⟨4, some 13, .iaddr 17 (.t 12) (.k (.sc (.int .i64 0))), none, []⟩,
 ⟨5, some 14, .load (some 17) (.t 13), none, []⟩,
 ⟨6, some 15, .call true (.t 10) [.t 14], none, []⟩,
 ⟨7, some 5, .mv (.t 15), none, []⟩] true [2, 3, 4, 5])
 (.seq (.region 1 [
 ⟨0, some 16, .mv (.t 5), none, []⟩,
 ⟨1, some 17, .mv (.t 5), none, []⟩,
 ⟨2, some 18, .build [.int .i64 0, .int .i64 0] [(0, 1, .t 16), (1, 1, .t 17)], none, []⟩,
 ⟨3, some 6, .alloc 0 [.int .i64 0, .int .i64 0], none, []⟩,
 ⟨4, none, .store 2 (.t 6) (.t 18), none, []⟩] false [2, 3, 4, 6])
 (.seq (.seq (.region 0 [
 ⟨0, some 19, .faddr 12 (.t 2), none, []⟩,
 ⟨1, some 20, .load none (.t 19), none, []⟩,
 ⟨2, some 21, .len 1 (.t 20), none, []⟩,
 ⟨3, some 22, .mv (.k (.sc (.int .i64 0))), none, []⟩] false [3, 4, 6, 20, 21, 22])
 (.block 0 (candle_book_span_L0)))
 (.seq (.region 0 [
 ⟨0, some 42, .load (some 2) (.t 6), none, []⟩,
 ⟨1, none, .store 2 (.t 4) (.t 42), none, []⟩] false [4])
 (.ret)))))), false⟩

def candle_Life_1 : Fn := ⟨2, 8, [(3, none)],
 (.seq (.region 1 [
 ⟨0, some 2, .box 0 (.t 0), none, []⟩,
 ⟨1, some 3, .mv (.k (.sc (.int .i64 0))), none, []⟩] false [1, 2])
 (.seq (.region 0 [
 ⟨0, some 4, .load none (.t 1), none, []⟩,
 ⟨1, some 5, .faddr 5 (.t 2), none, []⟩,
 ⟨2, some 6, .iarr 2 1 (.t 5) (.t 4), none, []⟩,
 ⟨3, some 7, .load none (.t 6), none, []⟩,
 ⟨4, some 3, .mv (.t 7), none, []⟩] false [3])
 (.ret))), false⟩

def candle_Dark_1 : Fn := ⟨2, 8, [(3, none)],
 (.seq (.region 1 [
 ⟨0, some 2, .box 0 (.t 0), none, []⟩,
 ⟨1, some 3, .mv (.k (.sc (.int .i64 0))), none, []⟩] false [1, 2])
 (.seq (.region 0 [
 ⟨0, some 4, .load none (.t 1), none, []⟩,
 ⟨1, some 5, .faddr 0 (.t 2), none, []⟩,
 ⟨2, some 6, .iarr 5 1 (.t 5) (.t 4), none, []⟩,
 ⟨3, some 7, .load none (.t 6), none, []⟩,
 ⟨4, some 3, .mv (.t 7), none, []⟩] false [3])
 (.ret))), false⟩

def candle_first_B0 : AC :=
 (.seq (.region 0 [
 ⟨0, some 25, .bin .lss (.t 24) (.t 23), none, []⟩] false [1, 2, 8, 23, 24, 25])
 (.seq (.cond (.t 25)
 (.skip)
 (.exit 0))
 (.seq (.block 1 (.seq (.region 0 [
 ⟨0, some 26, .mv (.t 24), none, []⟩,
 ⟨1, some 10, .mv (.t 26), none, []⟩] false [1, 2, 8, 10, 23, 24])
 (.seq (.region 0 [
 ⟨0, some 27, .mv (.t 2), none, []⟩,
 ⟨1, some 28, .iarr 2 1 (.g 2) (.t 27), none, []⟩,
 ⟨2, some 29, .load none (.t 28), none, []⟩,
 ⟨3, some 30, .load (some 13) (.t 8), none, []⟩,
 ⟨4, some 31, .mv (.t 1), none, []⟩,
 ⟨5, some 32, .mv (.t 10), none, []⟩,
 ⟨6, some 33, .call true (.t 29) [.t 30, .t 31, .t 32], none, []⟩] true [1, 2, 8, 10, 23, 24, 33])
 (.cond (.t 33)
 (.seq (.region 0 [
 ⟨0, some 34, .mv (.t 10), none, []⟩,
 ⟨1, some 6, .mv (.t 34), none, []⟩,
 ⟨2, some 7, .mv (.k (.sc (.int .i64 0))), none, []⟩] false [6, 7])
 (.ret))
 (.skip)))))
 (.region 0 [
 ⟨0, some 35, .bin .add (.t 24) (.k (.sc (.int .i64 1))), none, []⟩,
 ⟨1, some 24, .mv (.t 35), none, []⟩] false [1, 2, 8, 23, 24]))))
def candle_first_L0 : AC := .loop [1, 2, 8, 23, 24] candle_first_B0
def candle_first : Fn := ⟨3, 36, [(6, none), (7, none)],
 (.seq (.region 1 [
 ⟨0, some 3, .box 0 (.t 0), none, []⟩,
 ⟨1, some 6, .mv (.k (.sc (.int .i64 0))), none, []⟩,
 ⟨2, some 7, .mv (.k (.sc (.int .i64 0))), none, []⟩] false [1, 2, 3])
 (.seq (.region 1 [
 ⟨0, some 12, .load (some 11) (.t 3), none, []⟩,
 ⟨1, some 13, .mv (.t 1), none, []⟩,
 ⟨2, some 14, .call true (.f 47) [.t 13], none, []⟩,
 ⟨3, some 15, .call true (.f 53) [.t 12, .t 14], none, []⟩,
 ⟨4, some 11, .mv (.t 15), none, []⟩,
 ⟨5, some 16, .ext (.t 11) 0, none, []⟩,
 ⟨6, some 17, .ext (.t 11) 1, none, []⟩,
 ⟨7, some 8, .alloc 0 [.int .i64 0, .int .i64 0, .int .i64 0, .int .i64 0, .int .i64 0, .int .i64 0, .int .i64 0, .int .i64 0, .sl .nil 5 [], .sl .nil 3 [], .sl .nil 4 [], .imap true false [], .sl .nil 17 []], none, [0]⟩,
 ⟨8, none, .store 13 (.t 8) (.t 16), none, []⟩,
 ⟨9, some 9, .mv (.t 17), none, []⟩] true [1, 2, 3, 8, 9])
 (.seq (.seq (.region 0 [
 ⟨0, some 18, .mv (.t 9), none, []⟩,
 ⟨1, some 19, .bin .neq (.t 18) (.k (.sc (.int .i64 0))), none, []⟩] false [1, 2, 3, 8, 9, 19])
 (.cond (.t 19)
 (.seq (.region 0 [
 ⟨0, some 20, .mv (.t 9), none, []⟩,
 ⟨1, some 6, .mv (.k (.sc (.int .i64 0))), none, []⟩,
 ⟨2, some 7, .mv (.t 20), none, []⟩] false [6, 7])
 (.ret))
 (.skip)))
 (.seq (.seq (.region 0 [
 ⟨0, some 21, .faddr 8 (.t 3), none, []⟩,
 ⟨1, some 22, .load none (.t 21), none, []⟩,
 ⟨2, some 23, .len 1 (.t 22), none, []⟩,
 ⟨3, some 24, .mv (.k (.sc (.int .i64 0))), none, []⟩] false [1, 2, 8, 23, 24])
 (.block 0 (candle_first_L0)))
 (.seq (.region 0 [
 ⟨0, some 6, .mv (.k (.sc (.int .i64 0))), none, []⟩,
 ⟨1, some 7, .mv (.k (.sc (.int .i64 4))), none, []⟩] false [6, 7])
 (.ret)))))), false⟩

def candle_Wrong_1_B0 : AC :=
 (.seq (.seq (.region 0 [
 ⟨0, some 34, .mv (.t 10), none, []⟩,
 ⟨1, some 35, .faddr 10 (.t 2), none, []⟩,
 ⟨2, some 36, .load none (.t 35), none, []⟩,
 ⟨3, some 37, .len 1 (.t 36), none, []⟩,
 ⟨4, some 38, .bin .lss (.t 34) (.t 37), none, []⟩] false [0, 1, 2, 3, 8, 10, 38])
 (.cond (.t 38)
 (.skip)
 (.exit 0)))
 (.seq (.block 1 (.seq (.region 0 [
 ⟨0, some 42, .load none (.t 3), none, []⟩,
 ⟨1, some 43, .mv (.t 0), none, []⟩,
 ⟨2, some 44, .mv (.t 8), none, []⟩,
 ⟨3, some 45, .mv (.t 8), none, []⟩,
 ⟨4, some 46, .slice 1 (.t 43) none (some (.t 44)) (some (.t 45)), none, []⟩,
 ⟨5, some 47, .mv (.t 10), none, []⟩,
 ⟨6, some 48, .bslice 1 1 [.int .i64 0] [(0, .t 47)], none, []⟩,
 ⟨7, some 49, .append 1 (.tk 46) (.t 48), none, []⟩,
 ⟨8, some 50, .mv (.t 1), none, []⟩,
 ⟨9, some 51, .call false (.t 42) [.t 49, .t 50], none, []⟩,
 ⟨10, some 41, .mv (.t 51), none, []⟩,
 ⟨11, some 52, .ext (.t 41) 0, none, []⟩,
 ⟨12, some 53, .ext (.t 41) 1, none, []⟩,
 ⟨13, some 11, .mv (.t 52), none, []⟩,
 ⟨14, some 12, .mv (.t 53), none, []⟩] true [0, 1, 2, 3, 8, 10, 11, 12])
 (.seq (.region 0 [
 ⟨0, some 54, .mv (.t 12), none, []⟩] false [0, 1, 2, 3, 8, 10, 11, 54])
 (.cond (.t 54)
 (.seq (.region 0 [
 ⟨0, some 55, .mv (.t 11), none, []⟩,
 ⟨1, some 6, .mv (.t 55), none, []⟩,
 ⟨2, some 7, .mv (.k (.sc (.bool true))), none, []⟩] false [6, 7])
 (.ret))
 (.skip)))))
 (.region 0 [
 ⟨0, some 39, .mv (.t 10), none, []⟩,
 ⟨1, some 40, .bin .add (.t 39) (.k (.sc (.int .i64 1))), none, []⟩,
 ⟨2, some 10, .mv (.t 40), none, []⟩] false [0, 1, 2, 3, 8, 10])))
def candle_Wrong_1_L0 : AC := .loop [0, 1, 2, 3, 8, 10] candle_Wrong_1_B0
def candle_Wrong_1 : Fn := ⟨4, 56, [(6, none), (7, none)],
 (.seq (.region 0 [
 ⟨0, some 6, .mv (.k (.sc (.sl .nil 1 []))), none, []⟩,
 ⟨1, some 7, .mv (.k (.sc (.bool false))), none, []⟩] false [0, 1, 2, 3])
 (.seq (.region 0 [
 ⟨0, some 13, .mv (.t 0), none, []⟩,
 ⟨1, some 14, .len 1 (.t 13), none, []⟩,
 ⟨2, some 8, .mv (.t 14), none, []⟩] false [0, 1, 2, 3, 8])
 (.seq (.seq (.region 0 [
 ⟨0, some 15, .mv (.t 8), none, []⟩,
 ⟨1, some 16, .mv (.t 1), none, []⟩,
 ⟨2, some 17, .bin .eql (.t 15) (.t 16), none, []⟩] false [0, 1, 2, 3, 8, 17])
 (.cond (.t 17)
 (.seq (.region 0 [
 ⟨0, some 18, .mv (.t 0), none, []⟩,
 ⟨1, some 19, .load (some 11) (.t 2), none, []⟩,
 ⟨2, some 20, .mv (.t 0), none, []⟩,
 ⟨3, some 21, .call true (.f 42) [.t 19, .t 20], none, []⟩,
 ⟨4, some 22, .field 12 none (.t 21), none, []⟩,
 ⟨5, some 23, .len 1 (.t 22), none, []⟩,
 ⟨6, some 24, .bin .gtr (.t 23) (.k (.sc (.int .i64 0))), none, []⟩,
 ⟨7, some 6, .mv (.t 18), none, []⟩,
 ⟨8, some 7, .mv (.t 24), none, []⟩] false [6, 7])
 (.ret))
 (.skip)))
 (.seq (.region 0 [
 ⟨0, some 9, .mv (.k (.sc (.int .i64 0))), none, []⟩] false [0, 1, 2, 3, 8, 9])
 (.seq (.seq (.region 0 [
 ⟨0, some 25, .mv (.t 8), none, []⟩,
 ⟨1, some 26, .bin .gtr (.t 25) (.k (.sc (.int .i64 0))), none, []⟩] false [0, 1, 2, 3, 8, 9, 26])
 (.cond (.t 26)
 (.region 0 [
 ⟨0, some 27, .mv (.t 0), none, []⟩,
 ⟨1, some 28, .mv (.t 8), none, []⟩,
 ⟨2, some 29, .bin .sub (.t 28) (.k (.sc (.int .i64 1))), none, []⟩,
 ⟨3, some 30, .iaddr 1 (.t 27) (.t 29), none, []⟩,
 ⟨4, some 31, .load none (.t 30), none, []⟩,
 ⟨5, some 32, .bin .add (.t 31) (.k (.sc (.int .i64 1))), none, []⟩,
 ⟨6, some 9, .mv (.t 32), none, []⟩] false [0, 1, 2, 3, 8, 9])
 (.skip)))
 (.seq (.seq (.region 0 [
 ⟨0, some 33, .mv (.t 9), none, []⟩,
 ⟨1, some 10, .mv (.t 33), none, []⟩] false [0, 1, 2, 3, 8, 10])
 (.block 0 (candle_Wrong_1_L0)))
 (.seq (.region 0 [
 ⟨0, some 6, .mv (.k (.sc (.sl .nil 1 []))), none, []⟩,
 ⟨1, some 7, .mv (.k (.sc (.bool false))), none, []⟩] false [6, 7])
 (.ret)))))))), false⟩

def decaniref00_Has : Fn := ⟨2, 18, [(4, none)],
 (.seq (.region 0 [
 ⟨0, some 4, .mv (.k (.sc (.bool false))), none, []⟩] false [0, 1])
 (.seq (.region 0 [
 ⟨0, some 5, .mv (.t 1), none, []⟩,
 ⟨1, some 6, .bin .geq (.t 5) (.k (.sc (.int .i64 0))), none, []⟩,
 ⟨2, some 7, .mv (.t 6), none, []⟩,
 ⟨3, some 8, .mv (.t 1), some (7, true), []⟩,
 ⟨4, some 9, .bin .lss (.t 8) (.k (.sc (.int .i64 62))), some (7, true), []⟩,
 ⟨5, some 10, .pick (.t 7) (.t 9) (.k (.sc (.bool false))), none, []⟩,
 ⟨6, some 11, .mv (.t 10), none, []⟩,
 ⟨7, some 12, .mv (.t 0), some (11, true), []⟩,
 ⟨8, some 13, .mv (.t 1), some (11, true), []⟩,
 ⟨9, some 14, .bin .shr (.t 12) (.t 13), some (11, true), []⟩,
 ⟨10, some 15, .bin .and (.t 14) (.k (.sc (.int .i64 1))), some (11, true), []⟩,
 ⟨11, some 16, .bin .eql (.t 15) (.k (.sc (.int .i64 1))), some (11, true), []⟩,
 ⟨12, some 17, .pick (.t 11) (.t 16) (.k (.sc (.bool false))), none, []⟩,
 ⟨13, some 4, .mv (.t 17), none, []⟩] false [4])
 (.ret))), false⟩

def decaniref00_Earlier_B0 : AC :=
 (.seq (.seq (.region 0 [
 ⟨0, some 6, .mv (.t 5), none, []⟩,
 ⟨1, some 7, .mv (.t 0), none, []⟩,
 ⟨2, some 8, .len 1 (.t 7), none, []⟩,
 ⟨3, some 9, .bin .lss (.t 6) (.t 8), none, []⟩,
 ⟨4, some 10, .mv (.t 9), none, []⟩,
 ⟨5, some 11, .mv (.t 5), some (10, true), []⟩,
 ⟨6, some 12, .mv (.t 1), some (10, true), []⟩,
 ⟨7, some 13, .len 1 (.t 12), some (10, true), []⟩,
 ⟨8, some 14, .bin .lss (.t 11) (.t 13), some (10, true), []⟩,
 ⟨9, some 15, .pick (.t 10) (.t 14) (.k (.sc (.bool false))), none, []⟩] false [0, 1, 5, 15])
 (.cond (.t 15)
 (.skip)
 (.exit 0)))
 (.seq (.block 1 (.seq (.region 0 [
 ⟨0, some 18, .mv (.t 0), none, []⟩,
 ⟨1, some 19, .mv (.t 5), none, []⟩,
 ⟨2, some 20, .iaddr 1 (.t 18) (.t 19), none, []⟩,
 ⟨3, some 21, .load none (.t 20), none, []⟩,
 ⟨4, some 22, .mv (.t 1), none, []⟩,
 ⟨5, some 23, .mv (.t 5), none, []⟩,
 ⟨6, some 24, .iaddr 1 (.t 22) (.t 23), none, []⟩,
 ⟨7, some 25, .load none (.t 24), none, []⟩,
 ⟨8, some 26, .bin .neq (.t 21) (.t 25), none, []⟩] true [0, 1, 5, 26])
 (.cond (.t 26)
 (.seq (.region 0 [
 ⟨0, some 27, .mv (.t 0), none, []⟩,
 ⟨1, some 28, .mv (.t 5), none, []⟩,
 ⟨2, some 29, .iaddr 1 (.t 27) (.t 28), none, []⟩,
 ⟨3, some 30, .load none (.t 29), none, []⟩,
 ⟨4, some 31, .mv (.t 1), none, []⟩,
 ⟨5, some 32, .mv (.t 5), none, []⟩,
 ⟨6, some 33, .iaddr 1 (.t 31) (.t 32), none, []⟩,
 ⟨7, some 34, .load none (.t 33), none, []⟩,
 ⟨8, some 35, .bin .lss (.t 30) (.t 34), none, []⟩,
 ⟨9, some 4, .mv (.t 35), none, []⟩] true [4])
 (.ret))
 (.skip))))
 (.region 0 [
 ⟨0, some 16, .mv (.t 5), none, []⟩,
 ⟨1, some 17, .bin .add (.t 16) (.k (.sc (.int .i64 1))), none, []⟩,
 ⟨2, some 5, .mv (.t 17), none, []⟩] false [0, 1, 5])))
def decaniref00_Earlier_L0 : AC := .loop [0, 1, 5] decaniref00_Earlier_B0
def decaniref00_Earlier : Fn := ⟨2, 41, [(4, none)],
 (.seq (.region 0 [
 ⟨0, some 4, .mv (.k (.sc (.bool false))), none, []⟩] false [0, 1])
 (.seq (.seq (.region 0 [
 ⟨0, some 5, .mv (.k (.sc (.int .i64 0))), none, []⟩] false [0, 1, 5])
 (.block 0 (decaniref00_Earlier_L0)))
 (.seq (.region 0 [
 ⟨0, some 36, .mv (.t 0), none, []⟩,
 ⟨1, some 37, .len 1 (.t 36), none, []⟩,
 ⟨2, some 38, .mv (.t 1), none, []⟩,
 ⟨3, some 39, .len 1 (.t 38), none, []⟩,
 ⟨4, some 40, .bin .lss (.t 37) (.t 39), none, []⟩,
 ⟨5, some 4, .mv (.t 40), none, []⟩] false [4])
 (.ret)))), false⟩

def candle_book_right_B0 : AC :=
 (.seq (.region 0 [
 ⟨0, some 16, .bin .lss (.t 15) (.t 14), none, []⟩] false [1, 3, 6, 13, 14, 15, 16])
 (.seq (.cond (.t 16)
 (.skip)
 (.exit 0))
 (.seq (.block 1 (.seq (.region 1 [
 ⟨0, some 17, .mv (.t 15), none, []⟩,
 ⟨1, some 18, .iaddr 4 (.t 13) (.t 15), none, []⟩,
 ⟨2, some 19, .load (some 4) (.t 18), none, []⟩,
 ⟨3, some 10, .alloc 0 [.int .i64 0, .int .i64 0, .int .i64 0, .int .i64 0], none, []⟩,
 ⟨4, some 9, .mv (.t 17), none, []⟩,
 ⟨5, none, .store 4 (.t 10) (.t 19), none, []⟩] false [1, 3, 6, 9, 10, 13, 14, 15])
 (.seq (.region 0 [
 ⟨0, some 20, .faddr 0 (.t 10), none, []⟩,
 ⟨1, some 21, .load none (.t 20), none, []⟩,
 ⟨2, some 22, .mv (.t 1), none, []⟩,
 ⟨3, some 23, .bin .eql (.t 21) (.t 22), none, []⟩,
 ⟨4, some 24, .mv (.t 23), none, []⟩,
 ⟨5, some 25, .mv (.t 3), some (24, true), []⟩,
 ⟨6, some 26, .mv (.t 9), some (24, true), []⟩,
 ⟨7, some 27, .call true (.f 76) [.t 25, .t 26], some (24, true), []⟩,
 ⟨8, some 28, .un .not (.t 27), some (24, true), []⟩,
 ⟨9, some 29, .pick (.t 24) (.t 28) (.k (.sc (.bool false))), none, []⟩,
 ⟨10, some 30, .mv (.t 29), none, []⟩,
 ⟨11, some 31, .faddr 2 (.t 10), some (30, true), []⟩,
 ⟨12, some 32, .load none (.t 31), some (30, true), []⟩,
 ⟨13, some 33, .faddr 1 (.t 10), some (30, true), []⟩,
 ⟨14, some 34, .load none (.t 33), some (30, true), []⟩,
 ⟨15, some 35, .iarr 2 1 (.t 6) (.t 34), some (30, true), []⟩,
 ⟨16, some 36, .load none (.t 35), some (30, true), []⟩,
 ⟨17, some 37, .bin .sub (.t 32) (.t 36), some (30, true), []⟩,
 ⟨18, some 38, .faddr 3 (.t 10), some (30, true), []⟩,
 ⟨19, some 39, .load none (.t 38), some (30, true), []⟩,
 ⟨20, some 40, .un .neg (.t 39), some (30, true), []⟩,
 ⟨21, some 41, .faddr 3 (.t 10), some (30, true), []⟩,
 ⟨22, some 42, .load none (.t 41), some (30, true), []⟩,
 ⟨23, some 43, .call true (.f 44) [.t 37, .t 40, .t 42], some (30, true), []⟩,
 ⟨24, some 44, .un .not (.t 43), some (30, true), []⟩,
 ⟨25, some 45, .pick (.t 30) (.t 44) (.k (.sc (.bool false))), none, []⟩] true [1, 3, 6, 13, 14, 15, 45])
 (.cond (.t 45)
 (.seq (.region 0 [
 ⟨0, some 8, .mv (.k (.sc (.bool false))), none, []⟩] false [8])
 (.ret))
 (.skip)))))
 (.region 0 [
 ⟨0, some 46, .bin .add (.t 15) (.k (.sc (.int .i64 1))), none, []⟩,
 ⟨1, some 15, .mv (.t 46), none, []⟩] false [1, 3, 6, 13, 14, 15]))))
def candle_book_right_L0 : AC := .loop [1, 3, 6, 13, 14, 15] candle_book_right_B0
def candle_book_right : Fn := ⟨4, 47, [(8, none)],
 (.seq (.region 2 [
 ⟨0, some 4, .box 0 (.t 0), none, []⟩,
 ⟨1, some 6, .box 1 (.t 2), none, []⟩,
 ⟨2, some 8, .mv (.k (.sc (.bool false))), none, []⟩] false [1, 3, 4, 6])
 (.seq (.seq (.region 0 [
 ⟨0, some 11, .faddr 0 (.t 4), none, []⟩,
 ⟨1, some 12, .faddr 10 (.t 11), none, []⟩,
 ⟨2, some 13, .load none (.t 12), none, []⟩,
 ⟨3, some 14, .len 1 (.t 13), none, []⟩,
 ⟨4, some 15, .mv (.k (.sc (.int .i64 0))), none, []⟩] false [1, 3, 6, 13, 14, 15])
 (.block 0 (candle_book_right_L0)))
 (.seq (.region 0 [
 ⟨0, some 8, .mv (.k (.sc (.bool true))), none, []⟩] false [8])
 (.ret)))), false⟩

def candle_opened_1_B0 : AC :=
 (.seq (.region 0 [
 ⟨0, some 38, .bin .lss (.t 37) (.t 36), none, []⟩] false [2, 4, 5, 6, 7, 8, 9, 11, 36, 37, 38])
 (.seq (.cond (.t 38)
 (.skip)
 (.exit 0))
 (.seq (.block 1 (.seq (.region 0 [
 ⟨0, some 39, .mv (.t 37), none, []⟩,
 ⟨1, some 12, .mv (.t 39), none, []⟩] false [2, 4, 5, 6, 7, 8, 9, 11, 12, 36, 37])
 (.seq (.region 1 [
 ⟨0, some 40, .load (some 13) (.t 4), none, []⟩,
 ⟨1, some 41, .load (some 2) (.t 9), none, []⟩,
 ⟨2, some 42, .faddr 5 (.t 8), none, []⟩,
 ⟨3, some 43, .load (some 2) (.t 42), none, []⟩,
 ⟨4, some 44, .mv (.t 2), none, []⟩,
 ⟨5, some 45, .faddr 0 (.t 11), none, []⟩,
 ⟨6, some 46, .load none (.t 45), none, []⟩,
 ⟨7, some 47, .mv (.t 12), none, []⟩,
 ⟨8, some 48, .bin .add (.t 46) (.t 47), none, []⟩,
 ⟨9, some 49, .call true (.f 77) [.t 40, .t 41, .t 43, .t 44, .t 48], none, []⟩,
 ⟨10, some 13, .alloc 0 [.int .i64 0, .int .i64 0], none, []⟩,
 ⟨11, none, .store 2 (.t 13) (.t 49), none, []⟩] false [2, 4, 5, 6, 7, 8, 9, 11, 12, 13, 36, 37])
 (.seq (.seq (.region 0 [
 ⟨0, some 50, .load none (.t 5), none, []⟩,
 ⟨1, some 51, .mv (.t 2), none, []⟩,
 ⟨2, some 52, .load (some 2) (.t 13), none, []⟩,
 ⟨3, some 53, .load none (.t 6), none, []⟩,
 ⟨4, some 54, .call true (.t 50) [.t 51, .t 52, .t 53], none, []⟩,
 ⟨5, some 55, .un .not (.t 54), none, []⟩] false [2, 4, 5, 6, 7, 8, 9, 11, 12, 13, 36, 37, 55])
 (.cond (.t 55)
 (.exit 1)
 (.skip)))
 (.seq (.region 0 [
 ⟨0, some 56, .mv (.t 2), none, []⟩,
 ⟨1, some 57, .mv (.t 2), none, []⟩,
 ⟨2, some 58, .faddr 0 (.t 11), none, []⟩,
 ⟨3, some 59, .load none (.t 58), none, []⟩,
 ⟨4, some 60, .mv (.t 12), none, []⟩,
 ⟨5, some 61, .bin .add (.t 59) (.t 60), none, []⟩,
 ⟨6, some 62, .load (some 2) (.t 13), none, []⟩,
 ⟨7, some 63, .faddr 0 (.t 8), none, []⟩,
 ⟨8, some 64, .iarr 5 1 (.t 63) (.t 56), none, []⟩,
 ⟨9, none, .store 1 (.t 64) (.t 61), none, [6]⟩,
 ⟨10, some 65, .faddr 7 (.t 8), none, []⟩,
 ⟨11, some 66, .iarr 5 2 (.t 65) (.t 57), none, []⟩,
 ⟨12, none, .store 2 (.t 66) (.t 62), none, []⟩] true [2, 4, 5, 6, 7, 8, 9, 11, 13, 36, 37])
 (.region 0 [
 ⟨0, some 67, .load none (.t 7), none, []⟩,
 ⟨1, some 68, .load (some 17) (.t 8), none, []⟩,
 ⟨2, some 69, .load (some 2) (.t 13), none, []⟩,
 ⟨3, some 70, .mv (.t 2), none, []⟩,
 ⟨4, some 71, .bin .add (.t 70) (.k (.sc (.int .i64 1))), none, []⟩,
 ⟨5, some 72, .call false (.t 67) [.t 68, .t 69, .t 71], none, []⟩] false [2, 4, 5, 6, 7, 8, 9, 11, 36, 37]))))))
 (.region 0 [
 ⟨0, some 73, .bin .add (.t 37) (.k (.sc (.int .i64 1))), none, []⟩,
 ⟨1, some 37, .mv (.t 73), none, []⟩] false [2, 4, 5, 6, 7, 8, 9, 11, 36, 37]))))
def candle_opened_1_L0 : AC := .loop [2, 4, 5, 6, 7, 8, 9, 11, 36, 37] candle_opened_1_B0
def candle_opened_1 : Fn := ⟨8, 74, [],
 (.seq (.region 2 [
 ⟨0, some 8, .box 0 (.t 0), none, []⟩,
 ⟨1, some 9, .box 1 (.t 1), none, []⟩] false [2, 3, 4, 5, 6, 7, 8, 9])
 (.seq (.seq (.region 0 [
 ⟨0, some 14, .mv (.t 2), none, []⟩,
 ⟨1, some 15, .faddr 8 (.t 3), none, []⟩,
 ⟨2, some 16, .load none (.t 15), none, []⟩,
 ⟨3, some 17, .len 1 (.t 16), none, []⟩,
 ⟨4, some 18, .bin .eql (.t 14) (.t 17), none, []⟩] false [2, 3, 4, 5, 6, 7, 8, 9, 18])
 (.cond (.t 18)
 (.seq (.region 0 [
 ⟨0, some 19, .faddr 12 (.t 4), none, []⟩,
 ⟨1, some 20, .loadT (.t 19), none, []⟩,
 ⟨2, some 21, .load (some 17) (.t 8), none, []⟩,
 ⟨3, some 22, .bslice 17 1 [.int .i64 0, .int .i64 0, .int .i64 0, .int .i64 0, .int .i64 0, .int .i64 0, .int .i64 0, .int .i64 0, .int .i64 0, .int .i64 0, .int .i64 0, .int .i64 0, .int .i64 0, .int .i64 0, .int .i64 0, .int .i64 0, .int .i64 0] [(0, .t 21)], none, []⟩,
 ⟨4, some 23, .append 17 (.tk 20) (.t 22), none, []⟩,
 ⟨5, some 24, .faddr 12 (.t 4), none, []⟩,
 ⟨6, none, .store 1 (.t 24) (.tk 23), none, []⟩] false [])
 (.ret))
 (.skip)))
 (.seq (.region 1 [
 ⟨0, some 25, .faddr 8 (.t 3), none, []⟩,
 ⟨1, some 26, .load none (.t 25), none, []⟩,
 ⟨2, some 27, .mv (.t 2), none, []⟩,
 ⟨3, some 28, .iaddr 5 (.t 26) (.t 27), none, []⟩,
 ⟨4, some 29, .faddr 1 (.t 28), none, []⟩,
 ⟨5, some 30, .load (some 2) (.t 29), none, []⟩,
 ⟨6, some 11, .alloc 0 [.int .i64 0, .int .i64 0], none, []⟩,
 ⟨7, none, .store 2 (.t 11) (.t 30), none, []⟩] false [2, 4, 5, 6, 7, 8, 9, 11])
 (.seq (.region 0 [
 ⟨0, some 31, .faddr 1 (.t 11), none, []⟩,
 ⟨1, some 32, .load none (.t 31), none, []⟩,
 ⟨2, some 33, .faddr 0 (.t 11), none, []⟩,
 ⟨3, some 34, .load none (.t 33), none, []⟩,
 ⟨4, some 35, .bin .sub (.t 32) (.t 34), none, []⟩,
 ⟨5, some 36, .bin .add (.t 35) (.k (.sc (.int .i64 1))), none, []⟩,
 ⟨6, some 37, .mv (.k (.sc (.int .i64 0))), none, []⟩] false [2, 4, 5, 6, 7, 8, 9, 11, 36, 37])
 (.block 0 (candle_opened_1_L0)))))), false⟩

def candle_book_after_B0 : AC :=
 (.seq (.region 0 [
 ⟨0, some 44, .bin .lss (.t 43) (.k (.sc (.int .i64 2))), none, []⟩] false [3, 5, 6, 7, 10, 11, 12, 43, 44])
 (.seq (.cond (.t 44)
 (.skip)
 (.exit 0))
 (.seq (.block 1 (.seq (.region 0 [
 ⟨0, some 45, .mv (.t 43), none, []⟩,
 ⟨1, some 13, .mv (.t 45), none, []⟩] false [3, 5, 6, 7, 10, 11, 12, 13, 43])
 (.seq (.region 0 [
 ⟨0, some 46, .mv (.t 12), none, []⟩,
 ⟨1, some 47, .mv (.t 13), none, []⟩,
 ⟨2, some 48, .iarr 2 1 (.t 7) (.t 47), none, []⟩,
 ⟨3, some 49, .load none (.t 48), none, []⟩,
 ⟨4, some 50, .bin .add (.t 46) (.t 49), none, []⟩,
 ⟨5, some 51, .bin .sub (.t 50) (.k (.sc (.int .i64 1))), none, []⟩,
 ⟨6, some 52, .mv (.t 13), none, []⟩,
 ⟨7, some 53, .iarr 2 1 (.t 7) (.t 52), none, []⟩,
 ⟨8, some 54, .load none (.t 53), none, []⟩,
 ⟨9, some 55, .bin .quo (.t 51) (.t 54), none, []⟩,
 ⟨10, some 14, .mv (.t 55), none, []⟩] true [3, 5, 6, 7, 10, 11, 12, 13, 14, 43])
 (.region 0 [
 ⟨0, some 56, .mv (.t 13), none, []⟩,
 ⟨1, some 57, .mv (.t 13), none, []⟩,
 ⟨2, some 58, .iarr 2 1 (.t 6) (.t 57), none, []⟩,
 ⟨3, some 59, .load none (.t 58), none, []⟩,
 ⟨4, some 60, .faddr 11 (.t 5), none, []⟩,
 ⟨5, some 61, .load none (.t 60), none, []⟩,
 ⟨6, some 62, .mv (.t 13), none, []⟩,
 ⟨7, some 63, .mv (.t 3), none, []⟩,
 ⟨8, some 64, .build [.int .i64 0, .int .i64 0] [(0, 1, .t 62), (1, 1, .t 63)], none, []⟩,
 ⟨9, some 65, .lookup false ⟨true, [1, 1]⟩ (.sc (.int .i64 0)) (.t 61) (.t 64), none, []⟩,
 ⟨10, some 66, .mv (.t 14), none, []⟩,
 ⟨11, some 67, .un .neg (.t 66), none, []⟩,
 ⟨12, some 68, .mv (.t 13), none, []⟩,
 ⟨13, some 69, .faddr 3 (.t 11), none, []⟩,
 ⟨14, some 70, .iarr 2 1 (.t 69) (.t 68), none, []⟩,
 ⟨15, some 71, .load none (.t 70), none, []⟩,
 ⟨16, some 72, .bin .mul (.t 67) (.t 71), none, []⟩,
 ⟨17, some 73, .bslice 1 3 [.int .i64 0] [(0, .t 59), (1, .t 65), (2, .t 72)], none, []⟩,
 ⟨18, some 74, .call true (.f 79) [.t 73], none, []⟩,
 ⟨19, some 75, .iarr 2 1 (.t 6) (.t 56), none, []⟩,
 ⟨20, none, .store 1 (.t 75) (.t 74), none, []⟩] true [3, 5, 6, 7, 10, 11, 12, 43]))))
 (.region 0 [
 ⟨0, some 76, .bin .add (.t 43) (.k (.sc (.int .i64 1))), none, []⟩,
 ⟨1, some 43, .mv (.t 76), none, []⟩] false [3, 5, 6, 7, 10, 11, 12, 43]))))
def candle_book_after_L0 : AC := .loop [3, 5, 6, 7, 10, 11, 12, 43] candle_book_after_B0
def candle_book_after : Fn := ⟨5, 78, [(10, some (some 2))],
 (.seq (.region 4 [
 ⟨0, some 5, .box 0 (.t 0), none, []⟩,
 ⟨1, some 6, .box 1 (.t 1), none, []⟩,
 ⟨2, some 7, .box 2 (.t 2), none, []⟩,
 ⟨3, some 10, .alloc 3 [.int .i64 0, .int .i64 0], none, []⟩] false [3, 4, 5, 6, 7, 10])
 (.seq (.region 1 [
 ⟨0, some 15, .faddr 0 (.t 5), none, []⟩,
 ⟨1, some 16, .faddr 8 (.t 15), none, []⟩,
 ⟨2, some 17, .load none (.t 16), none, []⟩,
 ⟨3, some 18, .mv (.t 3), none, []⟩,
 ⟨4, some 19, .iaddr 5 (.t 17) (.t 18), none, []⟩,
 ⟨5, some 20, .load (some 5) (.t 19), none, []⟩,
 ⟨6, some 11, .alloc 0 [.int .i64 0, .int .i64 0, .int .i64 0, .int .i64 0, .int .i64 0], none, []⟩,
 ⟨7, none, .store 5 (.t 11) (.t 20), none, []⟩] false [3, 4, 5, 6, 7, 10, 11])
 (.seq (.region 0 [
 ⟨0, some 21, .faddr 0 (.t 11), none, []⟩,
 ⟨1, some 22, .load none (.t 21), none, []⟩,
 ⟨2, some 23, .mv (.t 4), none, []⟩,
 ⟨3, some 24, .min (.t 22) [.t 23], none, []⟩,
 ⟨4, some 12, .mv (.t 24), none, []⟩] false [3, 5, 6, 7, 10, 11, 12])
 (.seq (.seq (.region 0 [
 ⟨0, some 25, .load (some 2) (.t 6), none, []⟩,
 ⟨1, some 26, .call true (.f 78) [], none, []⟩,
 ⟨2, some 27, .eqf false ⟨true, [1, 1]⟩ (.t 25) (.t 26), none, []⟩,
 ⟨3, some 28, .mv (.t 27), none, []⟩,
 ⟨4, some 29, .mv (.t 12), some (28, true), []⟩,
 ⟨5, some 30, .bin .eql (.t 29) (.k (.sc (.int .i64 0))), some (28, true), []⟩,
 ⟨6, some 31, .pick (.t 28) (.t 30) (.k (.sc (.bool false))), none, []⟩] true [3, 5, 6, 7, 10, 11, 12, 31])
 (.cond (.t 31)
 (.seq (.region 0 [
 ⟨0, some 32, .faddr 11 (.t 5), none, []⟩,
 ⟨1, some 33, .load none (.t 32), none, []⟩,
 ⟨2, some 34, .mv (.t 3), none, []⟩,
 ⟨3, some 35, .build [.int .i64 0, .int .i64 0] [(0, 1, .k (.sc (.int .i64 0))), (1, 1, .t 34)], none, []⟩,
 ⟨4, some 36, .lookup false ⟨true, [1, 1]⟩ (.sc (.int .i64 0)) (.t 33) (.t 35), none, []⟩,
 ⟨5, some 37, .faddr 11 (.t 5), none, []⟩,
 ⟨6, some 38, .load none (.t 37), none, []⟩,
 ⟨7, some 39, .mv (.t 3), none, []⟩,
 ⟨8, some 40, .build [.int .i64 0, .int .i64 0] [(0, 1, .k (.sc (.int .i64 1))), (1, 1, .t 39)], none, []⟩,
 ⟨9, some 41, .lookup false ⟨true, [1, 1]⟩ (.sc (.int .i64 0)) (.t 38) (.t 40), none, []⟩,
 ⟨10, some 42, .build [.int .i64 0, .int .i64 0] [(0, 1, .t 36), (1, 1, .t 41)], none, []⟩,
 ⟨11, none, .store 2 (.t 10) (.t 42), none, []⟩] true [10])
 (.ret))
 (.skip)))
 (.seq (.seq (.region 0 [
 ⟨0, some 43, .mv (.k (.sc (.int .i64 0))), none, []⟩] false [3, 5, 6, 7, 10, 11, 12, 43])
 (.block 0 (candle_book_after_L0)))
 (.seq (.region 0 [
 ⟨0, some 77, .load (some 2) (.t 6), none, []⟩,
 ⟨1, none, .store 2 (.t 10) (.t 77), none, []⟩] false [10])
 (.ret))))))), false⟩

def candle_book_burns : Fn := ⟨1, 4, [(2, none)],
 (.seq (.region 1 [
 ⟨0, some 1, .box 0 (.t 0), none, []⟩,
 ⟨1, some 2, .mv (.k (.sc .nilf)), none, []⟩] false [1])
 (.frz 1 (.seq (.region 0 [
 ⟨0, some 3, .mkf 80 [] [] [.t 1], none, []⟩,
 ⟨1, some 2, .mv (.t 3), none, []⟩] false [2])
 (.ret)))), false⟩

def decaniref06_darks_B0 : AC :=
 (.seq (.seq (.region 0 [
 ⟨0, some 25, .mv (.t 7), none, []⟩,
 ⟨1, some 26, .faddr 1 (.t 6), none, []⟩,
 ⟨2, some 27, .load none (.t 26), none, []⟩,
 ⟨3, some 28, .bin .leq (.t 25) (.t 27), none, []⟩] false [1, 2, 5, 6, 7, 28])
 (.cond (.t 28)
 (.skip)
 (.exit 0)))
 (.seq (.block 1 (.region 0 [
 ⟨0, some 31, .mv (.tk 5), none, []⟩,
 ⟨1, some 32, .load (some 11) (.t 2), none, []⟩,
 ⟨2, some 33, .mv (.t 1), none, []⟩,
 ⟨3, some 34, .mv (.t 7), none, []⟩,
 ⟨4, some 35, .call true (.f 81) [.t 33, .t 34], none, []⟩,
 ⟨5, some 36, .call true (.f 71) [.t 32, .t 35], none, []⟩,
 ⟨6, some 37, .append 1 (.tk 31) (.t 36), none, []⟩,
 ⟨7, some 5, .mv (.tk 37), none, []⟩] true [1, 2, 5, 6, 7]))
 (.region 0 [
 ⟨0, some 29, .mv (.t 7), none, []⟩,
 ⟨1, some 30, .bin .add (.t 29) (.k (.sc (.int .i64 1))), none, []⟩,
 ⟨2, some 7, .mv (.t 30), none, []⟩] false [1, 2, 5, 6, 7])))
def decaniref06_darks_L0 : AC := .loop [1, 2, 5, 6, 7] decaniref06_darks_B0
def decaniref06_darks : Fn := ⟨2, 39, [(4, none)],
 (.seq (.region 1 [
 ⟨0, some 2, .box 0 (.t 0), none, []⟩,
 ⟨1, some 4, .mv (.k (.sc (.sl .nil 1 []))), none, []⟩] false [1, 2])
 (.seq (.seq (.region 0 [
 ⟨0, some 8, .mv (.t 1), none, []⟩,
 ⟨1, some 9, .len 1 (.t 8), none, []⟩,
 ⟨2, some 10, .faddr 8 (.t 2), none, []⟩,
 ⟨3, some 11, .load none (.t 10), none, []⟩,
 ⟨4, some 12, .len 1 (.t 11), none, []⟩,
 ⟨5, some 13, .bin .eql (.t 9) (.t 12), none, []⟩] false [1, 2, 13])
 (.cond (.t 13)
 (.seq (.region 0 [
 ⟨0, some 14, .mv (.t 1), none, []⟩,
 ⟨1, some 15, .bslice 1 1 [.sl .nil 1 []] [(0, .t 14)], none, []⟩,
 ⟨2, some 4, .mv (.t 15), none, []⟩] false [4])
 (.ret))
 (.skip)))
 (.seq (.region 0 [
 ⟨0, some 5, .mv (.k (.sc (.sl .nil 1 []))), none, []⟩] false [1, 2, 5])
 (.seq (.region 1 [
 ⟨0, some 16, .faddr 8 (.t 2), none, []⟩,
 ⟨1, some 17, .load none (.t 16), none, []⟩,
 ⟨2, some 18, .mv (.t 1), none, []⟩,
 ⟨3, some 19, .len 1 (.t 18), none, []⟩,
 ⟨4, some 20, .iaddr 5 (.t 17) (.t 19), none, []⟩,
 ⟨5, some 21, .faddr 1 (.t 20), none, []⟩,
 ⟨6, some 22, .load (some 2) (.t 21), none, []⟩,
 ⟨7, some 6, .alloc 0 [.int .i64 0, .int .i64 0], none, []⟩,
 ⟨8, none, .store 2 (.t 6) (.t 22), none, []⟩] false [1, 2, 5, 6])
 (.seq (.seq (.region 0 [
 ⟨0, some 23, .faddr 0 (.t 6), none, []⟩,
 ⟨1, some 24, .load none (.t 23), none, []⟩,
 ⟨2, some 7, .mv (.t 24), none, []⟩] false [1, 2, 5, 6, 7])
 (.block 0 (decaniref06_darks_L0)))
 (.seq (.region 0 [
 ⟨0, some 38, .mv (.t 5), none, []⟩,
 ⟨1, some 4, .mv (.t 38), none, []⟩] false [4])
 (.ret))))))), false⟩

def decaniref06_kind_B1 : AC :=
 (.seq (.seq (.region 0 [
 ⟨0, some 32, .mv (.t 11), none, []⟩,
 ⟨1, some 33, .mv (.t 1), none, []⟩,
 ⟨2, some 34, .faddr 4 (.t 4), none, []⟩,
 ⟨3, some 35, .iarr 2 2 (.t 34) (.t 33), none, []⟩,
 ⟨4, some 36, .faddr 1 (.t 35), none, []⟩,
 ⟨5, some 37, .load none (.t 36), none, []⟩,
 ⟨6, some 38, .bin .leq (.t 32) (.t 37), none, []⟩] false [1, 2, 3, 4, 9, 10, 11, 38])
 (.cond (.t 38)
 (.skip)
 (.exit 2)))
 (.seq (.block 3 (.seq (.region 1 [
 ⟨0, some 41, .mv (.t 2), none, []⟩,
 ⟨1, some 42, .mv (.t 10), none, []⟩,
 ⟨2, some 43, .mv (.t 11), none, []⟩,
 ⟨3, some 44, .build [.sl .nil 1 [], .int .i64 0, .int .i64 0] [(0, 1, .t 41), (1, 1, .t 42), (2, 1, .t 43)], none, []⟩,
 ⟨4, some 12, .alloc 0 [.sl .nil 1 [], .int .i64 0, .int .i64 0], none, []⟩,
 ⟨5, none, .store 3 (.t 12) (.t 44), none, []⟩] false [1, 2, 3, 4, 9, 10, 11, 12])
 (.seq (.region 0 [
 ⟨0, some 45, .load (some 11) (.t 4), none, []⟩,
 ⟨1, some 46, .mv (.t 1), none, []⟩,
 ⟨2, some 47, .load (some 11) (.t 4), none, []⟩,
 ⟨3, some 48, .mv (.t 1), none, []⟩,
 ⟨4, some 49, .load (some 3) (.t 12), none, []⟩,
 ⟨5, some 50, .call true (.f 74) [.t 47, .t 48, .t 49], none, []⟩,
 ⟨6, some 51, .mv (.t 3), none, []⟩,
 ⟨7, some 52, .call true (.f 82) [.t 45, .t 46, .t 50, .t 51], none, []⟩] true [1, 2, 3, 4, 9, 10, 11, 12, 52])
 (.cond (.t 52)
 (.region 0 [
 ⟨0, some 53, .mv (.tk 9), none, []⟩,
 ⟨1, some 54, .load (some 3) (.t 12), none, []⟩,
 ⟨2, some 55, .bslice 3 1 [.sl .nil 1 [], .int .i64 0, .int .i64 0] [(0, .t 54)], none, []⟩,
 ⟨3, some 56, .append 3 (.tk 53) (.t 55), none, []⟩,
 ⟨4, some 9, .mv (.tk 56), none, []⟩] false [1, 2, 3, 4, 9, 10, 11])
 (.skip)))))
 (.region 0 [
 ⟨0, some 39, .mv (.t 11), none, []⟩,
 ⟨1, some 40, .bin .add (.t 39) (.k (.sc (.int .i64 1))), none, []⟩,
 ⟨2, some 11, .mv (.t 40), none, []⟩] false [1, 2, 3, 4, 9, 10, 11])))
def decaniref06_kind_L1 : AC := .loop [1, 2, 3, 4, 9, 10, 11] decaniref06_kind_B1
def decaniref06_kind_B0 : AC :=
 (.seq (.seq (.region 0 [
 ⟨0, some 18, .mv (.t 10), none, []⟩,
 ⟨1, some 19, .mv (.t 1), none, []⟩,
 ⟨2, some 20, .faddr 0 (.t 4), none, []⟩,
 ⟨3, some 21, .iarr 2 2 (.t 20) (.t 19), none, []⟩,
 ⟨4, some 22, .faddr 1 (.t 21), none, []⟩,
 ⟨5, some 23, .load none (.t 22), none, []⟩,
 ⟨6, some 24, .bin .leq (.t 18) (.t 23), none, []⟩] false [1, 2, 3, 4, 9, 10, 24])
 (.cond (.t 24)
 (.skip)
 (.exit 0)))
 (.seq (.block 1 (.seq (.region 0 [
 ⟨0, some 27, .mv (.t 1), none, []⟩,
 ⟨1, some 28, .faddr 4 (.t 4), none, []⟩,
 ⟨2, some 29, .iarr 2 2 (.t 28) (.t 27), none, []⟩,
 ⟨3, some 30, .faddr 0 (.t 29), none, []⟩,
 ⟨4, some 31, .load none (.t 30), none, []⟩,
 ⟨5, some 11, .mv (.t 31), none, []⟩] false [1, 2, 3, 4, 9, 10, 11])
 (.block 2 (decaniref06_kind_L1))))
 (.region 0 [
 ⟨0, some 25, .mv (.t 10), none, []⟩,
 ⟨1, some 26, .bin .add (.t 25) (.k (.sc (.int .i64 1))), none, []⟩,
 ⟨2, some 10, .mv (.t 26), none, []⟩] false [1, 2, 3, 4, 9, 10])))
def decaniref06_kind_L0 : AC := .loop [1, 2, 3, 4, 9, 10] decaniref06_kind_B0
def decaniref06_kind : Fn := ⟨4, 58, [(8, none)],
 (.seq (.region 1 [
 ⟨0, some 4, .box 0 (.t 0), none, []⟩,
 ⟨1, some 8, .mv (.k (.sc (.sl .nil 3 []))), none, []⟩] false [1, 2, 3, 4])
 (.seq (.region 0 [
 ⟨0, some 9, .mv (.k (.sc (.sl .nil 3 []))), none, []⟩] false [1, 2, 3, 4, 9])
 (.seq (.seq (.region 0 [
 ⟨0, some 13, .mv (.t 1), none, []⟩,
 ⟨1, some 14, .faddr 0 (.t 4), none, []⟩,
 ⟨2, some 15, .iarr 2 2 (.t 14) (.t 13), none, []⟩,
 ⟨3, some 16, .faddr 0 (.t 15), none, []⟩,
 ⟨4, some 17, .load none (.t 16), none, []⟩,
 ⟨5, some 10, .mv (.t 17), none, []⟩] false [1, 2, 3, 4, 9, 10])
 (.block 0 (decaniref06_kind_L0)))
 (.seq (.region 0 [
 ⟨0, some 57, .mv (.t 9), none, []⟩,
 ⟨1, some 8, .mv (.t 57), none, []⟩] false [8])
 (.ret))))), false⟩

def candle_book_left_1 : Fn := ⟨3, 11, [(4, none)],
 (.seq (.region 1 [
 ⟨0, some 3, .box 0 (.t 0), none, []⟩,
 ⟨1, some 4, .mv (.k (.sc (.int .i64 0))), none, []⟩] false [1, 2, 3])
 (.seq (.region 0 [
 ⟨0, some 5, .load none (.t 1), none, []⟩,
 ⟨1, some 6, .load none (.t 2), none, []⟩,
 ⟨2, some 7, .faddr 7 (.t 3), none, []⟩,
 ⟨3, some 8, .iarr 5 2 (.t 7) (.t 5), none, []⟩,
 ⟨4, some 9, .iarr 2 1 (.t 8) (.t 6), none, []⟩,
 ⟨5, some 10, .load none (.t 9), none, []⟩,
 ⟨6, some 4, .mv (.t 10), none, []⟩] true [4])
 (.ret))), false⟩

def decaniref06_lefts_B1 : AC :=
 (.seq (.seq (.region 0 [
 ⟨0, some 23, .mv (.t 10), none, []⟩,
 ⟨1, some 24, .faddr 9 (.t 3), none, []⟩,
 ⟨2, some 25, .load none (.t 24), none, []⟩,
 ⟨3, some 26, .len 1 (.t 25), none, []⟩,
 ⟨4, some 27, .bin .lss (.t 23) (.t 26), none, []⟩] false [1, 3, 5, 7, 8, 9, 10, 27])
 (.cond (.t 27)
 (.skip)
 (.exit 2)))
 (.seq (.block 3 (.seq (.region 0 [
 ⟨0, some 30, .faddr 9 (.t 3), none, []⟩,
 ⟨1, some 31, .load none (.t 30), none, []⟩,
 ⟨2, some 32, .mv (.t 10), none, []⟩,
 ⟨3, some 33, .iaddr 3 (.t 31) (.t 32), none, []⟩,
 ⟨4, some 34, .faddr 0 (.t 33), none, []⟩,
 ⟨5, some 35, .load none (.t 34), none, []⟩,
 ⟨6, some 36, .mv (.t 9), none, []⟩,
 ⟨7, some 37, .bin .eql (.t 35) (.t 36), none, []⟩,
 ⟨8, some 38, .mv (.t 37), none, []⟩,
 ⟨9, some 39, .faddr 9 (.t 3), some (38, true), []⟩,
 ⟨10, some 40, .load none (.t 39), some (38, true), []⟩,
 ⟨11, some 41, .mv (.t 10), some (38, true), []⟩,
 ⟨12, some 42, .iaddr 3 (.t 40) (.t 41), some (38, true), []⟩,
 ⟨13, some 43, .faddr 1 (.t 42), some (38, true), []⟩,
 ⟨14, some 44, .load none (.t 43), some (38, true), []⟩,
 ⟨15, some 45, .mv (.t 1), some (38, true), []⟩,
 ⟨16, some 46, .bin .eql (.t 44) (.t 45), some (38, true), []⟩,
 ⟨17, some 47, .pick (.t 38) (.t 46) (.k (.sc (.bool false))), none, []⟩] false [1, 3, 5, 7, 8, 9, 10, 47])
 (.cond (.t 47)
 (.region 0 [
 ⟨0, some 48, .mv (.t 8), none, []⟩,
 ⟨1, some 49, .faddr 9 (.t 3), none, []⟩,
 ⟨2, some 50, .load none (.t 49), none, []⟩,
 ⟨3, some 51, .mv (.t 10), none, []⟩,
 ⟨4, some 52, .iaddr 3 (.t 50) (.t 51), none, []⟩,
 ⟨5, some 53, .faddr 2 (.t 52), none, []⟩,
 ⟨6, some 54, .load none (.t 53), none, []⟩,
 ⟨7, some 55, .bin .add (.t 48) (.t 54), none, []⟩,
 ⟨8, some 8, .mv (.t 55), none, []⟩] false [1, 3, 5, 7, 8, 9, 10])
 (.skip))))
 (.region 0 [
 ⟨0, some 28, .mv (.t 10), none, []⟩,
 ⟨1, some 29, .bin .add (.t 28) (.k (.sc (.int .i64 1))), none, []⟩,
 ⟨2, some 10, .mv (.t 29), none, []⟩] false [1, 3, 5, 7, 8, 9, 10])))
def decaniref06_lefts_L1 : AC := .loop [1, 3, 5, 7, 8, 9, 10] decaniref06_lefts_B1
def decaniref06_lefts_B2 : AC :=
 (.seq (.seq (.region 0 [
 ⟨0, some 68, .mv (.t 12), none, []⟩,
 ⟨1, some 69, .mv (.t 11), none, []⟩,
 ⟨2, some 70, .bin .lss (.t 68) (.t 69), none, []⟩] false [1, 3, 5, 7, 8, 9, 11, 12, 70])
 (.cond (.t 70)
 (.skip)
 (.exit 4)))
 (.seq (.block 5 (.region 0 [
 ⟨0, some 75, .mv (.t 8), none, []⟩,
 ⟨1, some 76, .faddr 8 (.t 3), none, []⟩,
 ⟨2, some 77, .load none (.t 76), none, []⟩,
 ⟨3, some 78, .mv (.t 9), none, []⟩,
 ⟨4, some 79, .mv (.t 1), none, []⟩,
 ⟨5, some 80, .iaddr 5 (.t 77) (.t 78), none, []⟩,
 ⟨6, some 81, .faddr 3 (.t 80), none, []⟩,
 ⟨7, some 82, .iarr 2 1 (.t 81) (.t 79), none, []⟩,
 ⟨8, some 83, .load none (.t 82), none, []⟩,
 ⟨9, some 84, .bin .sub (.t 75) (.t 83), none, []⟩,
 ⟨10, some 8, .mv (.t 84), none, []⟩] false [1, 3, 5, 7, 8, 9, 11, 12]))
 (.region 0 [
 ⟨0, some 71, .mv (.t 12), none, []⟩,
 ⟨1, some 72, .faddr 2 (.t 5), none, []⟩,
 ⟨2, some 73, .load none (.t 72), none, []⟩,
 ⟨3, some 74, .bin .add (.t 71) (.t 73), none, []⟩,
 ⟨4, some 12, .mv (.t 74), none, []⟩] false [1, 3, 5, 7, 8, 9, 11, 12])))
def decaniref06_lefts_L2 : AC := .loop [1, 3, 5, 7, 8, 9, 11, 12] decaniref06_lefts_B2
def decaniref06_lefts_B0 : AC :=
 (.seq (.seq (.region 0 [
 ⟨0, some 16, .mv (.t 9), none, []⟩,
 ⟨1, some 17, .faddr 8 (.t 3), none, []⟩,
 ⟨2, some 18, .load none (.t 17), none, []⟩,
 ⟨3, some 19, .len 1 (.t 18), none, []⟩,
 ⟨4, some 20, .bin .lss (.t 16) (.t 19), none, []⟩] false [1, 3, 5, 7, 8, 9, 20])
 (.cond (.t 20)
 (.skip)
 (.exit 0)))
 (.seq (.block 1 (.seq (.seq (.region 0 [
 ⟨0, some 10, .mv (.k (.sc (.int .i64 0))), none, []⟩] false [1, 3, 5, 7, 8, 9, 10])
 (.block 2 (decaniref06_lefts_L1)))
 (.seq (.region 0 [
 ⟨0, some 56, .faddr 8 (.t 3), none, []⟩,
 ⟨1, some 57, .load none (.t 56), none, []⟩,
 ⟨2, some 58, .mv (.t 9), none, []⟩,
 ⟨3, some 59, .iaddr 5 (.t 57) (.t 58), none, []⟩,
 ⟨4, some 60, .faddr 0 (.t 59), none, []⟩,
 ⟨5, some 61, .load none (.t 60), none, []⟩,
 ⟨6, some 62, .faddr 0 (.t 5), none, []⟩,
 ⟨7, some 63, .load none (.t 62), none, []⟩,
 ⟨8, some 64, .mv (.t 9), none, []⟩,
 ⟨9, some 65, .iaddr 1 (.t 63) (.t 64), none, []⟩,
 ⟨10, some 66, .load none (.t 65), none, []⟩,
 ⟨11, some 67, .min (.t 61) [.t 66], none, []⟩,
 ⟨12, some 11, .mv (.t 67), none, []⟩] true [1, 3, 5, 7, 8, 9, 11])
 (.seq (.seq (.region 0 [
 ⟨0, some 12, .mv (.k (.sc (.int .i64 0))), none, []⟩] false [1, 3, 5, 7, 8, 9, 11, 12])
 (.block 4 (decaniref06_lefts_L2)))
 (.region 0 [
 ⟨0, some 85, .mv (.tk 7), none, []⟩,
 ⟨1, some 86, .mv (.t 8), none, []⟩,
 ⟨2, some 87, .bslice 1 1 [.int .i64 0] [(0, .t 86)], none, []⟩,
 ⟨3, some 88, .append 1 (.tk 85) (.t 87), none, []⟩,
 ⟨4, some 7, .mv (.tk 88), none, []⟩] false [1, 3, 5, 7, 8, 9])))))
 (.region 0 [
 ⟨0, some 21, .mv (.t 9), none, []⟩,
 ⟨1, some 22, .bin .add (.t 21) (.k (.sc (.int .i64 1))), none, []⟩,
 ⟨2, some 9, .mv (.t 22), none, []⟩] false [1, 3, 5, 7, 8, 9])))
def decaniref06_lefts_L0 : AC := .loop [1, 3, 5, 7, 8, 9] decaniref06_lefts_B0
def decaniref06_lefts : Fn := ⟨3, 90, [(6, none)],
 (.seq (.region 2 [
 ⟨0, some 3, .box 0 (.t 0), none, []⟩,
 ⟨1, some 5, .box 1 (.t 2), none, []⟩,
 ⟨2, some 6, .mv (.k (.sc (.sl .nil 1 []))), none, []⟩] false [1, 3, 5])
 (.seq (.region 0 [
 ⟨0, some 13, .bslice 1 0 [.int .i64 0] [], none, []⟩,
 ⟨1, some 7, .mv (.t 13), none, []⟩] false [1, 3, 5, 7])
 (.seq (.region 0 [
 ⟨0, some 14, .faddr 1 (.t 5), none, []⟩,
 ⟨1, some 15, .load none (.t 14), none, []⟩,
 ⟨2, some 8, .mv (.t 15), none, []⟩] false [1, 3, 5, 7, 8])
 (.seq (.seq (.region 0 [
 ⟨0, some 9, .mv (.k (.sc (.int .i64 0))), none, []⟩] false [1, 3, 5, 7, 8, 9])
 (.block 0 (decaniref06_lefts_L0)))
 (.seq (.region 0 [
 ⟨0, some 89, .mv (.t 7), none, []⟩,
 ⟨1, some 6, .mv (.t 89), none, []⟩] false [6])
 (.ret)))))), false⟩

def slices_Contains_int_int : Fn := ⟨2, 9, [(4, none)],
 (.seq (.region 0 [
 ⟨0, some 4, .mv (.k (.sc (.bool false))), none, []⟩] false [0, 1])
 (.seq (.region 0 [
 ⟨0, some 5, .mv (.t 0), none, []⟩,
 ⟨1, some 6, .mv (.t 1), none, []⟩,
 ⟨2, some 7, .call true (.f 83) [.t 5, .t 6], none, []⟩,
 ⟨3, some 8, .bin .geq (.t 7) (.k (.sc (.int .i64 0))), none, []⟩,
 ⟨4, some 4, .mv (.t 8), none, []⟩] false [4])
 (.ret))), false⟩

def candle_none : Fn := ⟨0, 3, [(0, some (some 2))],
 (.seq (.region 1 [
 ⟨0, some 0, .alloc 0 [.int .i64 0, .int .i64 0], none, []⟩] false [0])
 (.seq (.region 1 [
 ⟨0, some 1, .alloc 0 [.int .i64 0, .int .i64 0], none, []⟩] false [0, 1])
 (.seq (.region 0 [
 ⟨0, some 2, .load (some 2) (.t 1), none, []⟩,
 ⟨1, none, .store 2 (.t 0) (.t 2), none, []⟩] false [0])
 (.ret)))), false⟩

def candle_sum_int_B0 : AC :=
 (.seq (.region 0 [
 ⟨0, some 9, .bin .lss (.t 8) (.t 7), none, []⟩] false [3, 6, 7, 8, 9])
 (.seq (.cond (.t 9)
 (.skip)
 (.exit 0))
 (.seq (.block 1 (.seq (.region 0 [
 ⟨0, some 10, .iaddr 1 (.t 6) (.t 8), none, []⟩,
 ⟨1, some 11, .load none (.t 10), none, []⟩,
 ⟨2, some 5, .mv (.t 11), none, []⟩] false [3, 5, 6, 7, 8])
 (.region 0 [
 ⟨0, some 12, .mv (.t 3), none, []⟩,
 ⟨1, some 13, .mv (.t 5), none, []⟩,
 ⟨2, some 14, .bin .add (.t 12) (.t 13), none, []⟩,
 ⟨3, some 3, .mv (.t 14), none, []⟩] false [3, 6, 7, 8])))
 (.region 0 [
 ⟨0, some 15, .bin .add (.t 8) (.k (.sc (.int .i64 1))), none, []⟩,
 ⟨1, some 8, .mv (.t 15), none, []⟩] false [3, 6, 7, 8]))))
def candle_sum_int_L0 : AC := .loop [3, 6, 7, 8] candle_sum_int_B0
def candle_sum_int : Fn := ⟨1, 17, [(2, none)],
 (.seq (.region 0 [
 ⟨0, some 2, .mv (.k (.sc (.int .i64 0))), none, []⟩] false [0])
 (.seq (.region 0 [
 ⟨0, some 3, .mv (.k (.sc (.int .i64 0))), none, []⟩] false [0, 3])
 (.seq (.seq (.region 0 [
 ⟨0, some 6, .mv (.t 0), none, []⟩,
 ⟨1, some 7, .len 1 (.t 6), none, []⟩,
 ⟨2, some 8, .mv (.k (.sc (.int .i64 0))), none, []⟩] false [3, 6, 7, 8])
 (.block 0 (candle_sum_int_L0)))
 (.seq (.region 0 [
 ⟨0, some 16, .mv (.t 3), none, []⟩,
 ⟨1, some 2, .mv (.t 16), none, []⟩] false [2])
 (.ret))))), false⟩

def candle_book_burns_1 : Fn := ⟨2, 9, [],
 (.seq (.region 1 [
 ⟨0, some 2, .box 0 (.t 0), none, []⟩] false [1, 2])
 (.seq (.region 1 [
 ⟨0, some 3, .alloc 0 [.nilf], none, []⟩] false [1, 2, 3])
 (.seq (.region 0 [
 ⟨0, some 4, .mkf 84 [] [] [.t 2, .t 1, .t 3], none, []⟩,
 ⟨1, none, .store 1 (.t 3) (.t 4), none, []⟩] false [3])
 (.region 0 [
 ⟨0, some 5, .load none (.t 3), none, []⟩,
 ⟨1, some 6, .call true (.f 78) [], none, []⟩,
 ⟨2, some 7, .build [.int .i64 0, .int .i64 0] [], none, []⟩,
 ⟨3, some 8, .call false (.t 5) [.t 6, .t 7, .k (.sc (.int .i64 0))], none, []⟩] true [])))), false⟩

def candle_book_burns_1_1_B1 : AC :=
 (.seq (.seq (.region 0 [
 ⟨0, some 41, .mv (.t 13), none, []⟩,
 ⟨1, some 42, .faddr 1 (.t 11), none, []⟩,
 ⟨2, some 43, .load none (.t 42), none, []⟩,
 ⟨3, some 44, .bin .leq (.t 41) (.t 43), none, []⟩] false [2, 5, 6, 7, 10, 11, 12, 13, 35, 36, 44])
 (.cond (.t 44)
 (.skip)
 (.exit 2)))
 (.seq (.block 3 (.seq (.region 0 [
 ⟨0, some 47, .mv (.t 2), none, []⟩,
 ⟨1, some 48, .mv (.t 2), none, []⟩,
 ⟨2, some 49, .faddr 0 (.t 10), none, []⟩,
 ⟨3, some 50, .load none (.t 49), none, []⟩,
 ⟨4, some 51, .mv (.t 12), none, []⟩,
 ⟨5, some 52, .bin .add (.t 50) (.t 51), none, []⟩,
 ⟨6, some 53, .mv (.t 13), none, []⟩,
 ⟨7, some 54, .iarr 2 1 (.t 6) (.t 47), none, []⟩,
 ⟨8, none, .store 1 (.t 54) (.t 52), none, []⟩,
 ⟨9, some 55, .iarr 2 1 (.t 7) (.t 48), none, []⟩,
 ⟨10, none, .store 1 (.t 55) (.t 53), none, []⟩] false [2, 5, 6, 7, 10, 11, 12, 13, 35, 36])
 (.seq (.region 0 [
 ⟨0, some 56, .load none (.t 5), none, []⟩,
 ⟨1, some 57, .load (some 2) (.t 6), none, []⟩,
 ⟨2, some 58, .load (some 2) (.t 7), none, []⟩,
 ⟨3, some 59, .mv (.t 2), none, []⟩,
 ⟨4, some 60, .bin .add (.t 59) (.k (.sc (.int .i64 1))), none, []⟩,
 ⟨5, some 61, .call false (.t 56) [.t 57, .t 58, .t 60], none, []⟩,
 ⟨6, some 62, .un .not (.t 61), none, []⟩] false [2, 5, 6, 7, 10, 11, 12, 13, 35, 36, 62])
 (.cond (.t 62)
 (.seq (.region 0 [
 ⟨0, some 9, .mv (.k (.sc (.bool false))), none, []⟩] false [9])
 (.ret))
 (.skip)))))
 (.region 0 [
 ⟨0, some 45, .mv (.t 13), none, []⟩,
 ⟨1, some 46, .bin .add (.t 45) (.k (.sc (.int .i64 1))), none, []⟩,
 ⟨2, some 13, .mv (.t 46), none, []⟩] false [2, 5, 6, 7, 10, 11, 12, 13, 35, 36])))
def candle_book_burns_1_1_L1 : AC := .loop [2, 5, 6, 7, 10, 11, 12, 13, 35, 36] candle_book_burns_1_1_B1
def candle_book_burns_1_1_B0 : AC :=
 (.seq (.region 0 [
 ⟨0, some 37, .bin .lss (.t 36) (.t 35), none, []⟩] false [2, 5, 6, 7, 10, 11, 35, 36, 37])
 (.seq (.cond (.t 37)
 (.skip)
 (.exit 0))
 (.seq (.block 1 (.seq (.region 0 [
 ⟨0, some 38, .mv (.t 36), none, []⟩,
 ⟨1, some 12, .mv (.t 38), none, []⟩] false [2, 5, 6, 7, 10, 11, 12, 35, 36])
 (.seq (.region 0 [
 ⟨0, some 39, .faddr 0 (.t 11), none, []⟩,
 ⟨1, some 40, .load none (.t 39), none, []⟩,
 ⟨2, some 13, .mv (.t 40), none, []⟩] false [2, 5, 6, 7, 10, 11, 12, 13, 35, 36])
 (.block 2 (candle_book_burns_1_1_L1)))))
 (.region 0 [
 ⟨0, some 63, .bin .add (.t 36) (.k (.sc (.int .i64 1))), none, []⟩,
 ⟨1, some 36, .mv (.t 63), none, []⟩] false [2, 5, 6, 7, 10, 11, 35, 36]))))
def candle_book_burns_1_1_L0 : AC := .loop [2, 5, 6, 7, 10, 11, 35, 36] candle_book_burns_1_1_B0
def candle_book_burns_1_1 : Fn := ⟨6, 64, [(9, none)],
 (.seq (.region 2 [
 ⟨0, some 6, .box 0 (.t 0), none, []⟩,
 ⟨1, some 7, .box 1 (.t 1), none, []⟩,
 ⟨2, some 9, .mv (.k (.sc (.bool false))), none, []⟩] false [2, 3, 4, 5, 6, 7])
 (.seq (.seq (.region 0 [
 ⟨0, some 14, .mv (.t 2), none, []⟩,
 ⟨1, some 15, .bin .eql (.t 14) (.k (.sc (.int .i64 2))), none, []⟩] false [2, 3, 4, 5, 6, 7, 15])
 (.cond (.t 15)
 (.seq (.region 0 [
 ⟨0, some 16, .load none (.t 3), none, []⟩,
 ⟨1, some 17, .load (some 2) (.t 6), none, []⟩,
 ⟨2, some 18, .load (some 2) (.t 7), none, []⟩,
 ⟨3, some 19, .call false (.t 16) [.t 17, .t 18], none, []⟩,
 ⟨4, some 9, .mv (.t 19), none, []⟩] false [9])
 (.ret))
 (.skip)))
 (.seq (.region 2 [
 ⟨0, some 20, .mv (.t 2), none, []⟩,
 ⟨1, some 21, .faddr 0 (.t 4), none, []⟩,
 ⟨2, some 22, .faddr 0 (.t 21), none, []⟩,
 ⟨3, some 23, .iarr 2 2 (.t 22) (.t 20), none, []⟩,
 ⟨4, some 24, .load (some 2) (.t 23), none, []⟩,
 ⟨5, some 25, .mv (.t 2), none, []⟩,
 ⟨6, some 26, .faddr 0 (.t 4), none, []⟩,
 ⟨7, some 27, .faddr 4 (.t 26), none, []⟩,
 ⟨8, some 28, .iarr 2 2 (.t 27) (.t 25), none, []⟩,
 ⟨9, some 29, .load (some 2) (.t 28), none, []⟩,
 ⟨10, some 10, .alloc 0 [.int .i64 0, .int .i64 0], none, [4, 9]⟩,
 ⟨11, some 11, .alloc 1 [.int .i64 0, .int .i64 0], none, [4, 9]⟩,
 ⟨12, none, .store 2 (.t 10) (.t 24), none, [9]⟩,
 ⟨13, none, .store 2 (.t 11) (.t 29), none, []⟩] true [2, 5, 6, 7, 10, 11])
 (.seq (.seq (.region 0 [
 ⟨0, some 30, .faddr 1 (.t 10), none, []⟩,
 ⟨1, some 31, .load none (.t 30), none, []⟩,
 ⟨2, some 32, .faddr 0 (.t 10), none, []⟩,
 ⟨3, some 33, .load none (.t 32), none, []⟩,
 ⟨4, some 34, .bin .sub (.t 31) (.t 33), none, []⟩,
 ⟨5, some 35, .bin .add (.t 34) (.k (.sc (.int .i64 1))), none, []⟩,
 ⟨6, some 36, .mv (.k (.sc (.int .i64 0))), none, []⟩] false [2, 5, 6, 7, 10, 11, 35, 36])
 (.block 0 (candle_book_burns_1_1_L0)))
 (.seq (.region 0 [
 ⟨0, some 9, .mv (.k (.sc (.bool true))), none, []⟩] false [9])
 (.ret)))))), false⟩

def decaniref00_With : Fn := ⟨2, 11, [(4, none)],
 (.seq (.region 0 [
 ⟨0, some 4, .mv (.k (.sc (.sl .nil 1 []))), none, []⟩] false [0, 1])
 (.seq (.region 0 [
 ⟨0, some 5, .bslice 1 0 [.int .i64 0] [], none, []⟩,
 ⟨1, some 6, .mv (.t 0), none, []⟩,
 ⟨2, some 7, .append 1 (.tk 5) (.t 6), none, []⟩,
 ⟨3, some 8, .mv (.t 1), none, []⟩,
 ⟨4, some 9, .bslice 1 1 [.int .i64 0] [(0, .t 8)], none, []⟩,
 ⟨5, some 10, .append 1 (.tk 7) (.t 9), none, []⟩,
 ⟨6, some 4, .mv (.tk 10), none, []⟩] false [4])
 (.ret))), false⟩

def decaniref06_right_B0 : AC :=
 (.seq (.seq (.region 0 [
 ⟨0, some 11, .mv (.t 9), none, []⟩,
 ⟨1, some 12, .faddr 10 (.t 4), none, []⟩,
 ⟨2, some 13, .load none (.t 12), none, []⟩,
 ⟨3, some 14, .len 1 (.t 13), none, []⟩,
 ⟨4, some 15, .bin .lss (.t 11) (.t 14), none, []⟩] false [1, 2, 3, 4, 9, 15])
 (.cond (.t 15)
 (.skip)
 (.exit 0)))
 (.seq (.block 1 (.seq (.region 1 [
 ⟨0, some 18, .faddr 10 (.t 4), none, []⟩,
 ⟨1, some 19, .load none (.t 18), none, []⟩,
 ⟨2, some 20, .mv (.t 9), none, []⟩,
 ⟨3, some 21, .iaddr 4 (.t 19) (.t 20), none, []⟩,
 ⟨4, some 22, .load (some 4) (.t 21), none, []⟩,
 ⟨5, some 10, .alloc 0 [.int .i64 0, .int .i64 0, .int .i64 0, .int .i64 0], none, []⟩,
 ⟨6, none, .store 4 (.t 10) (.t 22), none, []⟩] false [1, 2, 3, 4, 9, 10])
 (.seq (.region 0 [
 ⟨0, some 23, .faddr 1 (.t 10), none, []⟩,
 ⟨1, some 24, .load none (.t 23), none, []⟩,
 ⟨2, some 25, .mv (.t 1), none, []⟩,
 ⟨3, some 26, .bin .eql (.t 24) (.t 25), none, []⟩,
 ⟨4, some 27, .mv (.t 26), none, []⟩,
 ⟨5, some 28, .mv (.t 3), some (27, true), []⟩,
 ⟨6, some 29, .mv (.t 9), some (27, true), []⟩,
 ⟨7, some 30, .call true (.f 65) [.t 28, .t 29], some (27, true), []⟩,
 ⟨8, some 31, .un .not (.t 30), some (27, true), []⟩,
 ⟨9, some 32, .pick (.t 27) (.t 31) (.k (.sc (.bool false))), none, []⟩,
 ⟨10, some 33, .mv (.t 32), none, []⟩,
 ⟨11, some 34, .faddr 2 (.t 10), some (33, true), []⟩,
 ⟨12, some 35, .load none (.t 34), some (33, true), []⟩,
 ⟨13, some 36, .mv (.t 2), some (33, true), []⟩,
 ⟨14, some 37, .faddr 0 (.t 10), some (33, true), []⟩,
 ⟨15, some 38, .load none (.t 37), some (33, true), []⟩,
 ⟨16, some 39, .iaddr 1 (.t 36) (.t 38), some (33, true), []⟩,
 ⟨17, some 40, .load none (.t 39), some (33, true), []⟩,
 ⟨18, some 41, .bin .sub (.t 35) (.t 40), some (33, true), []⟩,
 ⟨19, some 42, .faddr 3 (.t 10), some (33, true), []⟩,
 ⟨20, some 43, .load none (.t 42), some (33, true), []⟩,
 ⟨21, some 44, .un .neg (.t 43), some (33, true), []⟩,
 ⟨22, some 45, .faddr 3 (.t 10), some (33, true), []⟩,
 ⟨23, some 46, .load none (.t 45), some (33, true), []⟩,
 ⟨24, some 47, .call true (.f 29) [.t 41, .t 44, .t 46], some (33, true), []⟩,
 ⟨25, some 48, .un .not (.t 47), some (33, true), []⟩,
 ⟨26, some 49, .pick (.t 33) (.t 48) (.k (.sc (.bool false))), none, []⟩] true [1, 2, 3, 4, 9, 49])
 (.cond (.t 49)
 (.seq (.region 0 [
 ⟨0, some 8, .mv (.k (.sc (.bool false))), none, []⟩] false [8])
 (.ret))
 (.skip)))))
 (.region 0 [
 ⟨0, some 16, .mv (.t 9), none, []⟩,
 ⟨1, some 17, .bin .add (.t 16) (.k (.sc (.int .i64 1))), none, []⟩,
 ⟨2, some 9, .mv (.t 17), none, []⟩] false [1, 2, 3, 4, 9])))
def decaniref06_right_L0 : AC := .loop [1, 2, 3, 4, 9] decaniref06_right_B0
def decaniref06_right : Fn := ⟨4, 50, [(8, none)],
 (.seq (.region 1 [
 ⟨0, some 4, .box 0 (.t 0), none, []⟩,
 ⟨1, some 8, .mv (.k (.sc (.bool false))), none, []⟩] false [1, 2, 3, 4])
 (.seq (.seq (.region 0 [
 ⟨0, some 9, .mv (.k (.sc (.int .i64 0))), none, []⟩] false [1, 2, 3, 4, 9])
 (.block 0 (decaniref06_right_L0)))
 (.seq (.region 0 [
 ⟨0, some 8, .mv (.k (.sc (.bool true))), none, []⟩] false [8])
 (.ret)))), false⟩

def slices_Index_int_int_B0 : AC :=
 (.seq (.region 0 [
 ⟨0, some 9, .bin .lss (.t 8) (.t 7), none, []⟩] false [0, 1, 7, 8, 9])
 (.seq (.cond (.t 9)
 (.skip)
 (.exit 0))
 (.seq (.block 1 (.seq (.region 0 [
 ⟨0, some 10, .mv (.t 8), none, []⟩,
 ⟨1, some 5, .mv (.t 10), none, []⟩] false [0, 1, 5, 7, 8])
 (.seq (.region 0 [
 ⟨0, some 11, .mv (.t 1), none, []⟩,
 ⟨1, some 12, .mv (.t 0), none, []⟩,
 ⟨2, some 13, .mv (.t 5), none, []⟩,
 ⟨3, some 14, .iaddr 1 (.t 12) (.t 13), none, []⟩,
 ⟨4, some 15, .load none (.t 14), none, []⟩,
 ⟨5, some 16, .bin .eql (.t 11) (.t 15), none, []⟩] false [0, 1, 5, 7, 8, 16])
 (.cond (.t 16)
 (.seq (.region 0 [
 ⟨0, some 17, .mv (.t 5), none, []⟩,
 ⟨1, some 4, .mv (.t 17), none, []⟩] false [4])
 (.ret))
 (.skip)))))
 (.region 0 [
 ⟨0, some 18, .bin .add (.t 8) (.k (.sc (.int .i64 1))), none, []⟩,
 ⟨1, some 8, .mv (.t 18), none, []⟩] false [0, 1, 7, 8]))))
def slices_Index_int_int_L0 : AC := .loop [0, 1, 7, 8] slices_Index_int_int_B0
def slices_Index_int_int : Fn := ⟨2, 19, [(4, none)],
 (.seq (.region 0 [
 ⟨0, some 4, .mv (.k (.sc (.int .i64 0))), none, []⟩] false [0, 1])
 (.seq (.seq (.region 0 [
 ⟨0, some 6, .mv (.t 0), none, []⟩,
 ⟨1, some 7, .len 1 (.t 6), none, []⟩,
 ⟨2, some 8, .mv (.k (.sc (.int .i64 0))), none, []⟩] false [0, 1, 7, 8])
 (.block 0 (slices_Index_int_int_L0)))
 (.seq (.region 0 [
 ⟨0, some 4, .mv (.k (.sc (.int .i64 (-1)))), none, []⟩] false [4])
 (.ret)))), false⟩

def candle_book_may : Fn := ⟨3, 13, [(6, none)],
 (.seq (.region 1 [
 ⟨0, some 3, .box 0 (.t 0), none, []⟩,
 ⟨1, some 6, .mv (.k (.sc (.bool false))), none, []⟩] false [1, 2, 3])
 (.seq (.region 0 [
 ⟨0, some 7, .load (some 13) (.t 3), none, []⟩,
 ⟨1, some 8, .mv (.t 1), none, []⟩,
 ⟨2, some 9, .mv (.t 2), none, []⟩,
 ⟨3, some 10, .call true (.f 54) [.t 7, .t 8, .t 9], none, []⟩,
 ⟨4, some 11, .field 0 none (.t 10), none, []⟩,
 ⟨5, some 12, .bin .lss (.t 11) (.k (.sc (.int .i64 0))), none, []⟩,
 ⟨6, some 6, .mv (.t 12), none, []⟩] false [6])
 (.ret))), false⟩

def candle_book_must : Fn := ⟨3, 13, [(6, none)],
 (.seq (.region 1 [
 ⟨0, some 3, .box 0 (.t 0), none, []⟩,
 ⟨1, some 6, .mv (.k (.sc (.bool false))), none, []⟩] false [1, 2, 3])
 (.seq (.region 0 [
 ⟨0, some 7, .load (some 13) (.t 3), none, []⟩,
 ⟨1, some 8, .mv (.t 1), none, []⟩,
 ⟨2, some 9, .mv (.t 2), none, []⟩,
 ⟨3, some 10, .call true (.f 54) [.t 7, .t 8, .t 9], none, []⟩,
 ⟨4, some 11, .field 1 none (.t 10), none, []⟩,
 ⟨5, some 12, .bin .lss (.t 11) (.k (.sc (.int .i64 0))), none, []⟩,
 ⟨6, some 6, .mv (.t 12), none, []⟩] false [6])
 (.ret))), false⟩

end Go.Pm.Ac

namespace Go.Pm
open Go Go.Pm.Ac Go.Proofs
set_option maxRecDepth 100000
def tab : List (Nat × Fn × Nat) := [
  (89, Ac.decanilaw06_CandleFits, 5),
  (2, Ac.candle_Right, 15),
  (4, Ac.candle_Check, 17),
  (5, Ac.decaniref06_Check, 18),
  (6, Ac.candle_Left, 19),
  (8, Ac.candle_Life, 21),
  (10, Ac.candle_Dark, 23),
  (12, Ac.decanilaw06_lit, 25),
  (13, Ac.candle_Short, 26),
  (15, Ac.candle_Surely, 28),
  (17, Ac.candle_Buy, 30),
  (19, Ac.candle_Fits, 32),
  (20, Ac.decaniref06_Fits, 33),
  (21, Ac.candle_Wrong, 34),
  (22, Ac.decaniref06_Wrong, 35),
  (23, Ac.decaniref00_Equal, 36),
  (29, Ac.decaniref00_Lies, 42),
  (30, Ac.decaniref00_Only, 43),
  (33, Ac.decaniref00_Bounds, 46),
  (35, Ac.decaniref00_Bits, 48),
  (37, Ac.decaniref00_Shorter, 50),
  (38, Ac.decanilaw06_own, 51),
  (39, Ac.decanilaw06_book, 52),
  (40, Ac.decanilaw06_torn, 53),
  (41, Ac.decanilaw06_counted, 54),
  (42, Ac.candle_opened, 55),
  (43, Ac.decaniref06_truths, 56),
  (44, Ac.candle_within, 57),
  (45, Ac.candle_isSpan, 58),
  (46, Ac.candle_isDay, 59),
  (47, Ac.candle_isKind, 60),
  (48, Ac.candle_isCount, 61),
  (49, Ac.decaniref00_Fair, 62),
  (50, Ac.decaniref06_isDay, 63),
  (51, Ac.decaniref06_isKind, 64),
  (52, Ac.decaniref06_isCount, 65),
  (53, Ac.candle_asked, 66),
  (54, Ac.candle_book_left, 67),
  (55, Ac.decaniref06_asked, 68),
  (58, Ac.candle_book_span, 70),
  (57, Ac.candle_Life_1, 71),
  (60, Ac.candle_Dark_1, 73),
  (61, Ac.candle_first, 74),
  (62, Ac.candle_Wrong_1, 75),
  (65, Ac.decaniref00_Has, 78),
  (67, Ac.decaniref00_Earlier, 80),
  (68, Ac.candle_book_right, 81),
  (69, Ac.candle_opened_1, 82),
  (77, Ac.candle_book_after, 83),
  (70, Ac.candle_book_burns, 84),
  (71, Ac.decaniref06_darks, 85),
  (72, Ac.decaniref06_kind, 86),
  (73, Ac.candle_book_left_1, 87),
  (74, Ac.decaniref06_lefts, 88),
  (76, Ac.slices_Contains_int_int, 90),
  (78, Ac.candle_none, 91),
  (79, Ac.candle_sum_int, 92),
  (80, Ac.candle_book_burns_1, 93),
  (84, Ac.candle_book_burns_1_1, 94),
  (81, Ac.decaniref00_With, 95),
  (82, Ac.decaniref06_right, 96),
  (83, Ac.slices_Index_int_int, 97),
  (85, Ac.candle_book_may, 113),
  (86, Ac.candle_book_must, 115)]
def glob1 : Nat → List C := fun g => match g with | 1 => [.int .i64 (-1), .int .i64 (-1)] | 2 => [.fn (.fn 85) [] [] [], .fn (.fn 86) [] [] []] | _ => []
def Γ1 : Env := { fn := fun id => (tab.find? (·.1 == id)).map (·.2.1), prim := fun _ => none, glob := glob1 }
noncomputable def S1 : Seat := { P := Tryd.prog, Γ := Γ1, fm := fun id => ((tab.find? (·.1 == id)).map (·.2.2)).getD 0, gm := fun g => match g with | 1 => 0 | 2 => 1 | _ => 0 }
def G1 : List Nat := [1, 2]
theorem ok89 : FnOk S1 G1 89 Ac.decanilaw06_CandleFits := fnChk_ok (fn := Tryd.f5) Tryd.func5 (by kernel_rfl)
theorem ok2 : FnOk S1 G1 2 Ac.candle_Right := fnChk_ok (fn := Tryd.f15) Tryd.func15 (by kernel_rfl)
theorem ok4 : FnOk S1 G1 4 Ac.candle_Check := fnChk_ok (fn := Tryd.f17) Tryd.func17 (by kernel_rfl)
theorem ok5 : FnOk S1 G1 5 Ac.decaniref06_Check := fnChk_ok (fn := Tryd.f18) Tryd.func18 (by kernel_rfl)
theorem ok6 : FnOk S1 G1 6 Ac.candle_Left := fnChk_ok (fn := Tryd.f19) Tryd.func19 (by kernel_rfl)
theorem ok8 : FnOk S1 G1 8 Ac.candle_Life := fnChk_ok (fn := Tryd.f21) Tryd.func21 (by kernel_rfl)
theorem ok10 : FnOk S1 G1 10 Ac.candle_Dark := fnChk_ok (fn := Tryd.f23) Tryd.func23 (by kernel_rfl)
theorem ok12 : FnOk S1 G1 12 Ac.decanilaw06_lit := fnChk_ok (fn := Tryd.f25) Tryd.func25 (by kernel_rfl)
theorem ok13 : FnOk S1 G1 13 Ac.candle_Short := fnChk_ok (fn := Tryd.f26) Tryd.func26 (by kernel_rfl)
theorem ok15 : FnOk S1 G1 15 Ac.candle_Surely := fnChk_ok (fn := Tryd.f28) Tryd.func28 (by kernel_rfl)
theorem ok17 : FnOk S1 G1 17 Ac.candle_Buy := fnChk_ok (fn := Tryd.f30) Tryd.func30 (by kernel_rfl)
theorem ok19 : FnOk S1 G1 19 Ac.candle_Fits := fnChk_ok (fn := Tryd.f32) Tryd.func32 (by kernel_rfl)
theorem ok20 : FnOk S1 G1 20 Ac.decaniref06_Fits := fnChk_ok (fn := Tryd.f33) Tryd.func33 (by kernel_rfl)
theorem ok21 : FnOk S1 G1 21 Ac.candle_Wrong := fnChk_ok (fn := Tryd.f34) Tryd.func34 (by kernel_rfl)
theorem ok22 : FnOk S1 G1 22 Ac.decaniref06_Wrong := fnChk_ok (fn := Tryd.f35) Tryd.func35 (by kernel_rfl)
theorem ok23 : FnOk S1 G1 23 Ac.decaniref00_Equal := fnChk_ok (fn := Tryd.f36) Tryd.func36 (by kernel_rfl)
theorem ok29 : FnOk S1 G1 29 Ac.decaniref00_Lies := fnChk_ok (fn := Tryd.f42) Tryd.func42 (by kernel_rfl)
theorem ok30 : FnOk S1 G1 30 Ac.decaniref00_Only := fnChk_ok (fn := Tryd.f43) Tryd.func43 (by kernel_rfl)
theorem ok33 : FnOk S1 G1 33 Ac.decaniref00_Bounds := fnChk_ok (fn := Tryd.f46) Tryd.func46 (by kernel_rfl)
theorem ok35 : FnOk S1 G1 35 Ac.decaniref00_Bits := fnChk_ok (fn := Tryd.f48) Tryd.func48 (by kernel_rfl)
theorem ok37 : FnOk S1 G1 37 Ac.decaniref00_Shorter := fnChk_ok (fn := Tryd.f50) Tryd.func50 (by kernel_rfl)
theorem ok38 : FnOk S1 G1 38 Ac.decanilaw06_own := fnChk_ok (fn := Tryd.f51) Tryd.func51 (by kernel_rfl)
theorem ok39 : FnOk S1 G1 39 Ac.decanilaw06_book := fnChk_ok (fn := Tryd.f52) Tryd.func52 (by kernel_rfl)
theorem ok40 : FnOk S1 G1 40 Ac.decanilaw06_torn := fnChk_ok (fn := Tryd.f53) Tryd.func53 (by kernel_rfl)
theorem ok41 : FnOk S1 G1 41 Ac.decanilaw06_counted := fnChk_ok (fn := Tryd.f54) Tryd.func54 (by kernel_rfl)
theorem ok42 : FnOk S1 G1 42 Ac.candle_opened := fnChk_ok (fn := Tryd.f55) Tryd.func55 (by kernel_rfl)
theorem ok43 : FnOk S1 G1 43 Ac.decaniref06_truths := fnChk_ok (fn := Tryd.f56) Tryd.func56 (by kernel_rfl)
theorem ok44 : FnOk S1 G1 44 Ac.candle_within := fnChk_ok (fn := Tryd.f57) Tryd.func57 (by kernel_rfl)
theorem ok45 : FnOk S1 G1 45 Ac.candle_isSpan := fnChk_ok (fn := Tryd.f58) Tryd.func58 (by kernel_rfl)
theorem ok46 : FnOk S1 G1 46 Ac.candle_isDay := fnChk_ok (fn := Tryd.f59) Tryd.func59 (by kernel_rfl)
theorem ok47 : FnOk S1 G1 47 Ac.candle_isKind := fnChk_ok (fn := Tryd.f60) Tryd.func60 (by kernel_rfl)
theorem ok48 : FnOk S1 G1 48 Ac.candle_isCount := fnChk_ok (fn := Tryd.f61) Tryd.func61 (by kernel_rfl)
theorem ok49 : FnOk S1 G1 49 Ac.decaniref00_Fair := fnChk_ok (fn := Tryd.f62) Tryd.func62 (by kernel_rfl)
theorem ok50 : FnOk S1 G1 50 Ac.decaniref06_isDay := fnChk_ok (fn := Tryd.f63) Tryd.func63 (by kernel_rfl)
theorem ok51 : FnOk S1 G1 51 Ac.decaniref06_isKind := fnChk_ok (fn := Tryd.f64) Tryd.func64 (by kernel_rfl)
theorem ok52 : FnOk S1 G1 52 Ac.decaniref06_isCount := fnChk_ok (fn := Tryd.f65) Tryd.func65 (by kernel_rfl)
theorem ok53 : FnOk S1 G1 53 Ac.candle_asked := fnChk_ok (fn := Tryd.f66) Tryd.func66 (by kernel_rfl)
theorem ok54 : FnOk S1 G1 54 Ac.candle_book_left := fnChk_ok (fn := Tryd.f67) Tryd.func67 (by kernel_rfl)
theorem ok55 : FnOk S1 G1 55 Ac.decaniref06_asked := fnChk_ok (fn := Tryd.f68) Tryd.func68 (by kernel_rfl)
theorem ok58 : FnOk S1 G1 58 Ac.candle_book_span := fnChk_ok (fn := Tryd.f70) Tryd.func70 (by kernel_rfl)
theorem ok57 : FnOk S1 G1 57 Ac.candle_Life_1 := fnChk_ok (fn := Tryd.f71) Tryd.func71 (by kernel_rfl)
theorem ok60 : FnOk S1 G1 60 Ac.candle_Dark_1 := fnChk_ok (fn := Tryd.f73) Tryd.func73 (by kernel_rfl)
theorem ok61 : FnOk S1 G1 61 Ac.candle_first := fnChk_ok (fn := Tryd.f74) Tryd.func74 (by kernel_rfl)
theorem ok62 : FnOk S1 G1 62 Ac.candle_Wrong_1 := fnChk_ok (fn := Tryd.f75) Tryd.func75 (by kernel_rfl)
theorem ok65 : FnOk S1 G1 65 Ac.decaniref00_Has := fnChk_ok (fn := Tryd.f78) Tryd.func78 (by kernel_rfl)
theorem ok67 : FnOk S1 G1 67 Ac.decaniref00_Earlier := fnChk_ok (fn := Tryd.f80) Tryd.func80 (by kernel_rfl)
theorem ok68 : FnOk S1 G1 68 Ac.candle_book_right := fnChk_ok (fn := Tryd.f81) Tryd.func81 (by kernel_rfl)
theorem ok69 : FnOk S1 G1 69 Ac.candle_opened_1 := fnChk_ok (fn := Tryd.f82) Tryd.func82 (by kernel_rfl)
theorem ok77 : FnOk S1 G1 77 Ac.candle_book_after := fnChk_ok (fn := Tryd.f83) Tryd.func83 (by kernel_rfl)
theorem ok70 : FnOk S1 G1 70 Ac.candle_book_burns := fnChk_ok (fn := Tryd.f84) Tryd.func84 (by kernel_rfl)
theorem ok71 : FnOk S1 G1 71 Ac.decaniref06_darks := fnChk_ok (fn := Tryd.f85) Tryd.func85 (by kernel_rfl)
theorem ok72 : FnOk S1 G1 72 Ac.decaniref06_kind := fnChk_ok (fn := Tryd.f86) Tryd.func86 (by kernel_rfl)
theorem ok73 : FnOk S1 G1 73 Ac.candle_book_left_1 := fnChk_ok (fn := Tryd.f87) Tryd.func87 (by kernel_rfl)
theorem ok74 : FnOk S1 G1 74 Ac.decaniref06_lefts := fnChk_ok (fn := Tryd.f88) Tryd.func88 (by kernel_rfl)
theorem ok76 : FnOk S1 G1 76 Ac.slices_Contains_int_int := fnChk_ok (fn := Tryd.f90) Tryd.func90 (by kernel_rfl)
theorem ok78 : FnOk S1 G1 78 Ac.candle_none := fnChk_ok (fn := Tryd.f91) Tryd.func91 (by kernel_rfl)
theorem ok79 : FnOk S1 G1 79 Ac.candle_sum_int := fnChk_ok (fn := Tryd.f92) Tryd.func92 (by kernel_rfl)
theorem ok80 : FnOk S1 G1 80 Ac.candle_book_burns_1 := fnChk_ok (fn := Tryd.f93) Tryd.func93 (by kernel_rfl)
theorem ok84 : FnOk S1 G1 84 Ac.candle_book_burns_1_1 := fnChk_ok (fn := Tryd.f94) Tryd.func94 (by kernel_rfl)
theorem ok81 : FnOk S1 G1 81 Ac.decaniref00_With := fnChk_ok (fn := Tryd.f95) Tryd.func95 (by kernel_rfl)
theorem ok82 : FnOk S1 G1 82 Ac.decaniref06_right := fnChk_ok (fn := Tryd.f96) Tryd.func96 (by kernel_rfl)
theorem ok83 : FnOk S1 G1 83 Ac.slices_Index_int_int := fnChk_ok (fn := Tryd.f97) Tryd.func97 (by kernel_rfl)
theorem ok85 : FnOk S1 G1 85 Ac.candle_book_may := fnChk_ok (fn := Tryd.f113) Tryd.func113 (by kernel_rfl)
theorem ok86 : FnOk S1 G1 86 Ac.candle_book_must := fnChk_ok (fn := Tryd.f115) Tryd.func115 (by kernel_rfl)
theorem ok_all : ∀ e ∈ tab, FnOk S1 G1 e.1 e.2.1 := by
  intro e he
  simp only [tab, List.mem_cons, List.not_mem_nil, or_false] at he
  rcases he with rfl | rfl | rfl | rfl | rfl | rfl | rfl | rfl | rfl | rfl | rfl | rfl | rfl | rfl | rfl | rfl | rfl | rfl | rfl | rfl | rfl | rfl | rfl | rfl | rfl | rfl | rfl | rfl | rfl | rfl | rfl | rfl | rfl | rfl | rfl | rfl | rfl | rfl | rfl | rfl | rfl | rfl | rfl | rfl | rfl | rfl | rfl | rfl | rfl | rfl | rfl | rfl | rfl | rfl | rfl | rfl | rfl | rfl | rfl | rfl | rfl | rfl | rfl | rfl
  · exact ok89
  · exact ok2
  · exact ok4
  · exact ok5
  · exact ok6
  · exact ok8
  · exact ok10
  · exact ok12
  · exact ok13
  · exact ok15
  · exact ok17
  · exact ok19
  · exact ok20
  · exact ok21
  · exact ok22
  · exact ok23
  · exact ok29
  · exact ok30
  · exact ok33
  · exact ok35
  · exact ok37
  · exact ok38
  · exact ok39
  · exact ok40
  · exact ok41
  · exact ok42
  · exact ok43
  · exact ok44
  · exact ok45
  · exact ok46
  · exact ok47
  · exact ok48
  · exact ok49
  · exact ok50
  · exact ok51
  · exact ok52
  · exact ok53
  · exact ok54
  · exact ok55
  · exact ok58
  · exact ok57
  · exact ok60
  · exact ok61
  · exact ok62
  · exact ok65
  · exact ok67
  · exact ok68
  · exact ok69
  · exact ok77
  · exact ok70
  · exact ok71
  · exact ok72
  · exact ok73
  · exact ok74
  · exact ok76
  · exact ok78
  · exact ok79
  · exact ok80
  · exact ok84
  · exact ok81
  · exact ok82
  · exact ok83
  · exact ok85
  · exact ok86
theorem seat_ok : SeatOk S1 G1 where
  mixed := by kernel_rfl
  fn := fun id f h => by
    have h' : (tab.find? (·.1 == id)).map (·.2.1) = some f := h
    cases hf : tab.find? (·.1 == id) with
    | none => rw [hf] at h'; cases h'
    | some e =>
      rw [hf] at h'
      have h1 := List.mem_of_find?_eq_some hf
      have h2 := List.find?_some hf
      simp only [Option.map_some, Option.some.injEq] at h'
      have h3 : e.1 = id := by simpa using h2
      subst h' h3
      exact ok_all e h1
  prim := fun id p vs v _ h => by cases h
end Go.Pm

namespace Go.Pm
open Ac
class P06 (Γ : Env) : Prop where
  f2 : Γ.fn 2 = some candle_Right
  f4 : Γ.fn 4 = some candle_Check
  f5 : Γ.fn 5 = some decaniref06_Check
  f6 : Γ.fn 6 = some candle_Left
  f8 : Γ.fn 8 = some candle_Life
  f10 : Γ.fn 10 = some candle_Dark
  f12 : Γ.fn 12 = some decanilaw06_lit
  f13 : Γ.fn 13 = some candle_Short
  f15 : Γ.fn 15 = some candle_Surely
  f17 : Γ.fn 17 = some candle_Buy
  f19 : Γ.fn 19 = some candle_Fits
  f20 : Γ.fn 20 = some decaniref06_Fits
  f21 : Γ.fn 21 = some candle_Wrong
  f22 : Γ.fn 22 = some decaniref06_Wrong
  f23 : Γ.fn 23 = some decaniref00_Equal
  f29 : Γ.fn 29 = some decaniref00_Lies
  f30 : Γ.fn 30 = some decaniref00_Only
  f33 : Γ.fn 33 = some decaniref00_Bounds
  f35 : Γ.fn 35 = some decaniref00_Bits
  f37 : Γ.fn 37 = some decaniref00_Shorter
  f38 : Γ.fn 38 = some decanilaw06_own
  f39 : Γ.fn 39 = some decanilaw06_book
  f40 : Γ.fn 40 = some decanilaw06_torn
  f41 : Γ.fn 41 = some decanilaw06_counted
  f42 : Γ.fn 42 = some candle_opened
  f43 : Γ.fn 43 = some decaniref06_truths
  f44 : Γ.fn 44 = some candle_within
  f45 : Γ.fn 45 = some candle_isSpan
  f46 : Γ.fn 46 = some candle_isDay
  f47 : Γ.fn 47 = some candle_isKind
  f48 : Γ.fn 48 = some candle_isCount
  f49 : Γ.fn 49 = some decaniref00_Fair
  f50 : Γ.fn 50 = some decaniref06_isDay
  f51 : Γ.fn 51 = some decaniref06_isKind
  f52 : Γ.fn 52 = some decaniref06_isCount
  f53 : Γ.fn 53 = some candle_asked
  f54 : Γ.fn 54 = some candle_book_left
  f55 : Γ.fn 55 = some decaniref06_asked
  f57 : Γ.fn 57 = some candle_Life_1
  f58 : Γ.fn 58 = some candle_book_span
  f60 : Γ.fn 60 = some candle_Dark_1
  f61 : Γ.fn 61 = some candle_first
  f62 : Γ.fn 62 = some candle_Wrong_1
  f65 : Γ.fn 65 = some decaniref00_Has
  f67 : Γ.fn 67 = some decaniref00_Earlier
  f68 : Γ.fn 68 = some candle_book_right
  f69 : Γ.fn 69 = some candle_opened_1
  f70 : Γ.fn 70 = some candle_book_burns
  f71 : Γ.fn 71 = some decaniref06_darks
  f72 : Γ.fn 72 = some decaniref06_kind
  f73 : Γ.fn 73 = some candle_book_left_1
  f74 : Γ.fn 74 = some decaniref06_lefts
  f76 : Γ.fn 76 = some slices_Contains_int_int
  f77 : Γ.fn 77 = some candle_book_after
  f78 : Γ.fn 78 = some candle_none
  f79 : Γ.fn 79 = some candle_sum_int
  f80 : Γ.fn 80 = some candle_book_burns_1
  f81 : Γ.fn 81 = some decaniref00_With
  f82 : Γ.fn 82 = some decaniref06_right
  f83 : Γ.fn 83 = some slices_Index_int_int
  f84 : Γ.fn 84 = some candle_book_burns_1_1
  f85 : Γ.fn 85 = some candle_book_may
  f86 : Γ.fn 86 = some candle_book_must
  f89 : Γ.fn 89 = some decanilaw06_CandleFits
end Go.Pm

namespace Go.Pm.Cd
open Ac
set_option maxRecDepth 100000
set_option linter.unusedSimpArgs false

structure Span where
  lo : Int
  hi : Int
structure Day where
  hours : Int
  dark : Span
  l0 : Int
  l1 : Int
structure Order where
  day : Int
  kind : Int
  many : Int
structure Count where
  day : Int
  kind : Int
  left : Int
  err : Int
structure Book where
  s0 : Span
  s1 : Span
  f0 : Span
  f1 : Span
  kd : SK
  days : List Day
  ko : SK
  orders : List Order
  kc : SK
  counts : List Count

def Day.c (x : Day) : List C := [ci x.hours, ci x.dark.lo, ci x.dark.hi, ci x.l0, ci x.l1]
section
variable (x : Day)
@[go_sem] theorem Day.c_0 : x.c[0]? = some (ci x.hours) := nrfl rfl
@[go_sem] theorem Day.c_1 : x.c[1]? = some (ci x.dark.lo) := nrfl rfl
@[go_sem] theorem Day.c_2 : x.c[2]? = some (ci x.dark.hi) := nrfl rfl
@[go_sem] theorem Day.c_3 : x.c[3]? = some (ci x.l0) := nrfl rfl
@[go_sem] theorem Day.c_4 : x.c[4]? = some (ci x.l1) := nrfl rfl
@[go_sem] theorem Day.c_1_2 : cellsAt x.c 1 2 = some [ci x.dark.lo, ci x.dark.hi] := nrfl rfl
@[go_sem] theorem Day.c_3_2 : cellsAt x.c 3 2 = some [ci x.l0, ci x.l1] := nrfl rfl
@[go_sem] theorem Day.c_un : x.c.map unown = x.c := nrfl rfl
@[go_sem] theorem Day.c_pure : C.pureL x.c = true := nrfl rfl
@[go_sem] theorem Day.c_all : cellsAt x.c 0 5 = some x.c := nrfl rfl
@[go_sem] theorem Day.c_len : x.c.length = 5 := nrfl rfl
@[go_sem] theorem Day.c_under (n : Nat) : C.underL n x.c = true := pureL_underL0 n _ rfl
@[go_sem] theorem Day.c_set (z0 z1 z2 z3 z4 : C) : setAll [z0, z1, z2, z3, z4] 0 x.c = x.c := nrfl rfl
@[go_sem] theorem Day.c_frz (b : Nat) (h : List Obj) : frzL b h 128 x.c = some x.c := by simp only [Day.c, go_sem]
end
def Order.c (x : Order) : List C := [ci x.day, ci x.kind, ci x.many]
section
variable (x : Order)
@[go_sem] theorem Order.c_0 : x.c[0]? = some (ci x.day) := nrfl rfl
@[go_sem] theorem Order.c_1 : x.c[1]? = some (ci x.kind) := nrfl rfl
@[go_sem] theorem Order.c_2 : x.c[2]? = some (ci x.many) := nrfl rfl
@[go_sem] theorem Order.c_un : x.c.map unown = x.c := nrfl rfl
@[go_sem] theorem Order.c_pure : C.pureL x.c = true := nrfl rfl
@[go_sem] theorem Order.c_all : cellsAt x.c 0 3 = some x.c := nrfl rfl
@[go_sem] theorem Order.c_len : x.c.length = 3 := nrfl rfl
@[go_sem] theorem Order.c_under (n : Nat) : C.underL n x.c = true := pureL_underL0 n _ rfl
@[go_sem] theorem Order.c_set (z0 z1 z2 : C) : setAll [z0, z1, z2] 0 x.c = x.c := nrfl rfl
@[go_sem] theorem Order.c_frz (b : Nat) (h : List Obj) : frzL b h 128 x.c = some x.c := by simp only [Order.c, go_sem]
end
def Count.c (x : Count) : List C := [ci x.day, ci x.kind, ci x.left, ci x.err]
section
variable (x : Count)
@[go_sem] theorem Count.c_0 : x.c[0]? = some (ci x.day) := nrfl rfl
@[go_sem] theorem Count.c_1 : x.c[1]? = some (ci x.kind) := nrfl rfl
@[go_sem] theorem Count.c_2 : x.c[2]? = some (ci x.left) := nrfl rfl
@[go_sem] theorem Count.c_3 : x.c[3]? = some (ci x.err) := nrfl rfl
@[go_sem] theorem Count.c_un : x.c.map unown = x.c := nrfl rfl
@[go_sem] theorem Count.c_pure : C.pureL x.c = true := nrfl rfl
@[go_sem] theorem Count.c_all : cellsAt x.c 0 4 = some x.c := nrfl rfl
@[go_sem] theorem Count.c_len : x.c.length = 4 := nrfl rfl
@[go_sem] theorem Count.c_under (n : Nat) : C.underL n x.c = true := pureL_underL0 n _ rfl
@[go_sem] theorem Count.c_set (z0 z1 z2 z3 : C) : setAll [z0, z1, z2, z3] 0 x.c = x.c := nrfl rfl
@[go_sem] theorem Count.c_frz (b : Nat) (h : List Obj) : frzL b h 128 x.c = some x.c := by simp only [Count.c, go_sem]
end
def Book.c (x : Book) : List C := [ci x.s0.lo, ci x.s0.hi, ci x.s1.lo, ci x.s1.hi, ci x.f0.lo, ci x.f0.hi, ci x.f1.lo, ci x.f1.hi, .sl x.kd 5 (x.days.map Day.c), .sl x.ko 3 (x.orders.map Order.c), .sl x.kc 4 (x.counts.map Count.c)]
section
variable (x : Book)
@[go_sem] theorem Book.c_0 : x.c[0]? = some (ci x.s0.lo) := nrfl rfl
@[go_sem] theorem Book.c_1 : x.c[1]? = some (ci x.s0.hi) := nrfl rfl
@[go_sem] theorem Book.c_2 : x.c[2]? = some (ci x.s1.lo) := nrfl rfl
@[go_sem] theorem Book.c_3 : x.c[3]? = some (ci x.s1.hi) := nrfl rfl
@[go_sem] theorem Book.c_4 : x.c[4]? = some (ci x.f0.lo) := nrfl rfl
@[go_sem] theorem Book.c_5 : x.c[5]? = some (ci x.f0.hi) := nrfl rfl
@[go_sem] theorem Book.c_6 : x.c[6]? = some (ci x.f1.lo) := nrfl rfl
@[go_sem] theorem Book.c_7 : x.c[7]? = some (ci x.f1.hi) := nrfl rfl
@[go_sem] theorem Book.c_8 : x.c[8]? = some (.sl x.kd 5 (x.days.map Day.c)) := nrfl rfl
@[go_sem] theorem Book.c_9 : x.c[9]? = some (.sl x.ko 3 (x.orders.map Order.c)) := nrfl rfl
@[go_sem] theorem Book.c_10 : x.c[10]? = some (.sl x.kc 4 (x.counts.map Count.c)) := nrfl rfl
@[go_sem] theorem Book.c_0_2 : cellsAt x.c 0 2 = some [ci x.s0.lo, ci x.s0.hi] := nrfl rfl
@[go_sem] theorem Book.c_2_2 : cellsAt x.c 2 2 = some [ci x.s1.lo, ci x.s1.hi] := nrfl rfl
@[go_sem] theorem Book.c_4_2 : cellsAt x.c 4 2 = some [ci x.f0.lo, ci x.f0.hi] := nrfl rfl
@[go_sem] theorem Book.c_6_2 : cellsAt x.c 6 2 = some [ci x.f1.lo, ci x.f1.hi] := nrfl rfl
@[go_sem] theorem Book.c_un : x.c.map unown = x.c := nrfl rfl
@[go_sem] theorem Book.c_pure : C.pureL x.c = true := nrfl rfl
@[go_sem] theorem Book.c_all : cellsAt x.c 0 11 = some x.c := nrfl rfl
@[go_sem] theorem Book.c_len : x.c.length = 11 := nrfl rfl
@[go_sem] theorem Book.c_under (n : Nat) : C.underL n x.c = true := pureL_underL0 n _ rfl
@[go_sem] theorem Book.c_set (z0 z1 z2 z3 z4 z5 z6 z7 z8 z9 z10 : C) : setAll [z0, z1, z2, z3, z4, z5, z6, z7, z8, z9, z10] 0 x.c = x.c := nrfl rfl
@[go_sem] theorem Book.c_frz (b : Nat) (h : List Obj) : frzL b h 128 x.c = some x.c := by simp only [Book.c, go_sem]
end

def within (n low high : Int) : Bool := decide (low ≤ n) && decide (n ≤ high)
def Span.is (s : Span) (low high wide : Int) : Bool := decide (low ≤ s.lo) && decide (s.lo ≤ s.hi) && decide (s.hi ≤ high) && decide (s.hi - s.lo ≤ wide)

section
variable {Γ : Env} [P06 Γ]

@[go_sem] theorem within_k (a b c : Int) : K Γ (.fn 44) [vi a, vi b, vi c] [] = some (vb (within a b c), []) := by
  rw [K_fn P06.f44 _ _ rfl]
  simp only [go_sem, simprocAttr, candle_within]
  repeat' (first | ((first | (refine br_yes (by omega) ?_) | (refine br_no (by omega) ?_) | (apply br_all; (· simp only [Bool.and_eq_true, decide_eq_true_eq]; omega)) | (apply br_free; (· simp [go_sem, Pm.acc, Acc.free, refsOf, offOf, keyEq, tagEq, cellsEq, cellEq]; done)) | ((first | apply br_mergeT | apply br_mergeF); (· intro h; simp only [go_sem, simprocAttr, sel_of h]; exact rfl))); (try simp only [go_sem, simprocAttr])) | ((first | apply onGuard_sel | (apply pickV_split; apply br_split) | apply br_split) <;> intro h <;> (try simp only [go_sem, simprocAttr, h])))
  all_goals (simp_all [within]; try (intros; omega))

theorem isSpan_k (s : Span) (low high wide : Int) (hl : 0 ≤ low) (hh : high ≤ 1000) :
    K Γ (.fn 45) [.agg [ci s.lo, ci s.hi], vi low, vi high, vi wide] [] = some (vb (s.is low high wide), []) := by
  rw [K_fn P06.f45 _ _ rfl]
  simp only [go_sem, simprocAttr, candle_isSpan]
  repeat' (first | ((first | (refine br_yes (by omega) ?_) | (refine br_no (by omega) ?_) | (apply br_all; (· simp only [Bool.and_eq_true, decide_eq_true_eq]; omega)) | (apply br_free; (· simp [go_sem, Pm.acc, Acc.free, refsOf, offOf, keyEq, tagEq, cellsEq, cellEq]; done)) | ((first | apply br_mergeT | apply br_mergeF); (· intro h; simp only [go_sem, simprocAttr, sel_of h]; exact rfl))); (try simp only [go_sem, simprocAttr])) | ((first | apply onGuard_sel | (apply pickV_split; apply br_split) | apply br_split) <;> intro h <;> (try simp only [go_sem, simprocAttr, h])))
  by_cases h : low ≤ s.lo ∧ s.lo ≤ s.hi ∧ s.hi ≤ high
  · rw [wrap_i64 (by omega) (by omega)]; rfl
  · simp only [Span.is]
    have e : (decide (low ≤ s.lo) && decide (s.lo ≤ s.hi) && decide (s.hi ≤ high)) = false := by
      rw [Bool.eq_false_iff]; intro e; simp only [Bool.and_eq_true, decide_eq_true_eq] at e; omega
    simp only [e, Bool.false_and]
@[go_sem] theorem isSpan_k1 (s : Span) : K Γ (.fn 45) [.agg [ci s.lo, ci s.hi], vi 0, vi 60, vi 2] [] = some (vb (s.is 0 60 2), []) := isSpan_k s _ _ _ (by decide) (by decide)
@[go_sem] theorem isSpan_k2 (s : Span) : K Γ (.fn 45) [.agg [ci s.lo, ci s.hi], vi 1, vi 6, vi 1] [] = some (vb (s.is 1 6 1), []) := isSpan_k s _ _ _ (by decide) (by decide)
@[go_sem] theorem isSpan_k3 (s : Span) : K Γ (.fn 45) [.agg [ci s.lo, ci s.hi], vi 0, vi 6, vi 2] [] = some (vb (s.is 0 6 2), []) := isSpan_k s _ _ _ (by decide) (by decide)

@[go_sem] theorem isKind_k (n : Int) : K Γ (.fn 47) [vi n] [] = some (vb (within n 0 1), []) := by
  rw [K_fn P06.f47 _ _ rfl]
  simp only [go_sem, simprocAttr, candle_isKind]

class Book.Fits (b : Book) : Prop where
  d : b.days.length ≤ 9223372036854775807
  o : b.orders.length ≤ 9223372036854775807
  c : b.counts.length ≤ 9223372036854775807

@[go_sem] theorem isDay_k (b : Book) [hd : b.Fits] (n : Int) : K Γ (.fn 46) [.agg b.c, vi n] [] = some (vb (within n 0 (b.days.length - 1)), []) := by
  have hi : IntKind.i64.wrap ((b.days.length : Int) - 1) = b.days.length - 1 := wrap_i64 (by have := hd.d; omega) (by have := hd.d; omega)
  rw [K_fn P06.f46 _ _ rfl]
  simp only [go_sem, simprocAttr, candle_isDay, hi]

def Book.isCount (b : Book) (x : Count) : Bool := within x.day 0 (b.days.length - 1) && within x.kind 0 1 && within x.left (-300) 300 && within x.err 0 5

@[go_sem] theorem isCount_k (b : Book) [hd : b.Fits] (x : Count) : K Γ (.fn 48) [.agg b.c, .agg x.c] [] = some (vb (b.isCount x), []) := by
  rw [K_fn P06.f48 _ _ rfl]
  simp only [go_sem, simprocAttr, candle_isCount]
  repeat' (first | ((first | (refine br_yes (by omega) ?_) | (refine br_no (by omega) ?_) | (apply br_all; (· simp only [Bool.and_eq_true, decide_eq_true_eq]; omega)) | (apply br_free; (· simp [go_sem, Pm.acc, Acc.free, refsOf, offOf, keyEq, tagEq, cellsEq, cellEq]; done)) | ((first | apply br_mergeT | apply br_mergeF); (· intro h; simp only [go_sem, simprocAttr, sel_of h]; exact rfl))); (try simp only [go_sem, simprocAttr])) | ((first | apply onGuard_sel | (apply pickV_split; apply br_split) | apply br_split) <;> intro h <;> (try simp only [go_sem, simprocAttr, h])))
  all_goals simp_all [Book.isCount]
end
end Go.Pm.Cd

namespace Go.Pm.Cd
open Ac
set_option maxRecDepth 100000
set_option linter.unusedSimpArgs false

def Day.ok (x : Day) : Bool := within x.hours 0 6 && x.dark.is 0 6 2 && within x.l0 0 9 && within x.l1 0 9
def Book.orderOk (b : Book) (x : Order) : Bool := within x.day 0 (b.days.length - 1) && within x.kind 0 1 && within x.many 0 60
def Book.valid (b : Book) : Bool :=
  within b.days.length 1 5 && decide ((b.orders.length : Int) ≤ 4) && decide ((b.counts.length : Int) ≤ 5) && b.s0.is 0 60 2 && b.f0.is 1 6 1 && b.s1.is 0 60 2 && b.f1.is 1 6 1 &&
  b.days.all Day.ok && b.orders.all b.orderOk && b.counts.all b.isCount

def Book.sane (b : Book) : Bool :=
  within b.days.length 1 5 && decide ((b.orders.length : Int) ≤ 4) && decide ((b.counts.length : Int) ≤ 6) && b.s0.is 0 60 2 && b.f0.is 1 6 1 && b.s1.is 0 60 2 && b.f1.is 1 6 1 &&
  b.days.all Day.ok && b.orders.all b.orderOk && b.counts.all b.isCount
theorem sane_of_valid {b : Book} (hv : b.valid = true) : b.sane = true := by
  simp only [Book.valid, Book.sane, Bool.and_eq_true, decide_eq_true_eq] at hv ⊢
  refine ⟨⟨⟨⟨⟨⟨⟨⟨⟨hv.1.1.1.1.1.1.1.1.1, hv.1.1.1.1.1.1.1.1.2⟩, by have := hv.1.1.1.1.1.1.1.2; omega⟩, hv.1.1.1.1.1.1.2⟩, hv.1.1.1.1.1.2⟩, hv.1.1.1.1.2⟩, hv.1.1.1.2⟩, hv.1.1.2⟩, hv.1.2⟩, hv.2⟩

theorem foldl_and {α : Type} (p : α → Bool) : ∀ (l : List α) (b : Bool), l.foldl (fun a x => a && p x) b = (b && l.all p)
  | [], b => by simp
  | x :: l, b => by simp [foldl_and p l, Bool.and_assoc]

section
variable {Γ : Env} [P06 Γ]

@[go_sem] theorem check_L0 (b : Book) [hb : b.Fits] (ok : Bool) {β : Type} (Q : Ex → St → Option β) : E Γ candle_Check_L0 ⟨[(1, .sc (.ptr 0 0)), (3, vb ok), (29, vi 0)], [.var b.c]⟩ Q =
    Q (.exit 0) ⟨[(1, .sc (.ptr 0 0)), (3, vb (ok && b.s0.is 0 60 2 && b.f0.is 1 6 1 && b.s1.is 0 60 2 && b.f1.is 1 6 1)), (29, vi 2), (30, vb false)], [.var b.c]⟩ := by
  simp only [go_sem, simprocAttr, candle_Check_L0, candle_Check_B0, E_loop]
  repeat' (first | ((first | (refine br_yes (by omega) ?_) | (refine br_no (by omega) ?_) | (apply br_all; (· simp only [Bool.and_eq_true, decide_eq_true_eq]; omega)) | (apply br_free; (· simp [go_sem, Pm.acc, Acc.free, refsOf, offOf, keyEq, tagEq, cellsEq, cellEq]; done)) | ((first | apply br_mergeT | apply br_mergeF); (· intro h; simp only [go_sem, simprocAttr, sel_of h, candle_Check_L0, candle_Check_B0, E_loop]; exact rfl))); (try simp only [go_sem, simprocAttr, candle_Check_L0, candle_Check_B0, E_loop])) | ((first | apply onGuard_sel | (apply pickV_split; apply br_split) | apply br_split) <;> intro h <;> (try simp only [go_sem, simprocAttr, h, candle_Check_L0, candle_Check_B0, E_loop])))
@[go_sem] theorem check_L1 (b : Book) [hb : b.Fits] (ok : Bool) {β : Type} (Q : Ex → St → Option β) : E Γ candle_Check_L1 ⟨[(1, .sc (.ptr 0 0)), (3, vb ok), (49, .sc (.sl b.kd 5 (b.days.map Day.c))), (50, vi b.days.length), (51, vi 0)], [.var b.c]⟩ Q =
    Q (.exit 2) ⟨[(1, .sc (.ptr 0 0)), (3, vb (ok && b.days.all Day.ok)), (49, .sc (.sl b.kd 5 (b.days.map Day.c))), (50, vi b.days.length), (51, vi b.days.length), (52, vb false)], [.var b.c]⟩ := by
  refine (E_each (fun i ok => ⟨[(1, .sc (.ptr 0 0)), (3, vb ok), (49, .sc (.sl b.kd 5 (b.days.map Day.c))), (50, vi b.days.length), (51, vi i)], [.var b.c]⟩) b.days (fun a x => a && x.ok)
    (fun ok => (.exit 2, ⟨[(1, .sc (.ptr 0 0)), (3, vb ok), (49, .sc (.sl b.kd 5 (b.days.map Day.c))), (50, vi b.days.length), (51, vi b.days.length), (52, vb false)], [.var b.c]⟩)) Q (fun i ok x hx => ?_) (fun ok => ?_) ok).trans ?_
  · have hlt : i < b.days.length := (List.getElem?_eq_some_iff.1 hx).1
    have hd := hb.d
    have hi : IntKind.i64.wrap ((i : Int) + 1) = i + 1 := wrap_i64 (by omega) (by omega)
    simp only [go_sem, simprocAttr, candle_Check_B1]
    repeat' (first | ((first | (refine br_yes (by omega) ?_) | (refine br_no (by omega) ?_) | (apply br_all; (· simp only [Bool.and_eq_true, decide_eq_true_eq]; omega)) | (apply br_free; (· simp [go_sem, Pm.acc, Acc.free, refsOf, offOf, keyEq, tagEq, cellsEq, cellEq]; done)) | ((first | apply br_mergeT | apply br_mergeF); (· intro h; simp only [go_sem, simprocAttr, sel_of h, candle_Check_L2, candle_Check_B2, E_loop, hx, hi]; exact rfl))); (try simp only [go_sem, simprocAttr, candle_Check_L2, candle_Check_B2, E_loop, hx, hi])) | ((first | apply onGuard_sel | (apply pickV_split; apply br_split) | apply br_split) <;> intro h <;> (try simp only [go_sem, simprocAttr, h, candle_Check_L2, candle_Check_B2, E_loop, hx, hi])))
    all_goals (simp_all [Day.ok, Bool.and_assoc]; done)
  · simp only [go_sem, simprocAttr, candle_Check_B1]
  · rw [foldl_and]

@[go_sem] theorem check_L3 (b : Book) [hb : b.Fits] (ok : Bool) {β : Type} (Q : Ex → St → Option β) : E Γ candle_Check_L3 ⟨[(1, .sc (.ptr 0 0)), (3, vb ok), (79, .sc (.sl b.ko 3 (b.orders.map Order.c))), (80, vi b.orders.length), (81, vi 0)], [.var b.c]⟩ Q =
    Q (.exit 6) ⟨[(1, .sc (.ptr 0 0)), (3, vb (ok && b.orders.all b.orderOk)), (79, .sc (.sl b.ko 3 (b.orders.map Order.c))), (80, vi b.orders.length), (81, vi b.orders.length), (82, vb false)], [.var b.c]⟩ := by
  refine (E_each (fun i ok => ⟨[(1, .sc (.ptr 0 0)), (3, vb ok), (79, .sc (.sl b.ko 3 (b.orders.map Order.c))), (80, vi b.orders.length), (81, vi i)], [.var b.c]⟩) b.orders (fun a x => a && b.orderOk x)
    (fun ok => (.exit 6, ⟨[(1, .sc (.ptr 0 0)), (3, vb ok), (79, .sc (.sl b.ko 3 (b.orders.map Order.c))), (80, vi b.orders.length), (81, vi b.orders.length), (82, vb false)], [.var b.c]⟩)) Q (fun i ok x hx => ?_) (fun ok => ?_) ok).trans ?_
  · have hlt : i < b.orders.length := (List.getElem?_eq_some_iff.1 hx).1
    have hd := hb.o
    have hi : IntKind.i64.wrap ((i : Int) + 1) = i + 1 := wrap_i64 (by omega) (by omega)
    simp only [go_sem, simprocAttr, candle_Check_B3]
    repeat' (first | ((first | (refine br_yes (by omega) ?_) | (refine br_no (by omega) ?_) | (apply br_all; (· simp only [Bool.and_eq_true, decide_eq_true_eq]; omega)) | (apply br_free; (· simp [go_sem, Pm.acc, Acc.free, refsOf, offOf, keyEq, tagEq, cellsEq, cellEq]; done)) | ((first | apply br_mergeT | apply br_mergeF); (· intro h; simp only [go_sem, simprocAttr, sel_of h, hx, hi]; exact rfl))); (try simp only [go_sem, simprocAttr, hx, hi])) | ((first | apply onGuard_sel | (apply pickV_split; apply br_split) | apply br_split) <;> intro h <;> (try simp only [go_sem, simprocAttr, h, hx, hi])))
    all_goals (simp_all [Book.orderOk, Bool.and_assoc]; done)
  · simp only [go_sem, simprocAttr, candle_Check_B3]
  · rw [foldl_and]

@[go_sem] theorem check_L4 (b : Book) [hb : b.Fits] (ok : Bool) {β : Type} (Q : Ex → St → Option β) : E Γ candle_Check_L4 ⟨[(1, .sc (.ptr 0 0)), (3, vb ok), (104, .sc (.sl b.kc 4 (b.counts.map Count.c))), (105, vi b.counts.length), (106, vi 0)], [.var b.c]⟩ Q =
    Q (.exit 8) ⟨[(1, .sc (.ptr 0 0)), (3, vb (ok && b.counts.all b.isCount)), (104, .sc (.sl b.kc 4 (b.counts.map Count.c))), (105, vi b.counts.length), (106, vi b.counts.length), (107, vb false)], [.var b.c]⟩ := by
  refine (E_each (fun i ok => ⟨[(1, .sc (.ptr 0 0)), (3, vb ok), (104, .sc (.sl b.kc 4 (b.counts.map Count.c))), (105, vi b.counts.length), (106, vi i)], [.var b.c]⟩) b.counts (fun a x => a && b.isCount x)
    (fun ok => (.exit 8, ⟨[(1, .sc (.ptr 0 0)), (3, vb ok), (104, .sc (.sl b.kc 4 (b.counts.map Count.c))), (105, vi b.counts.length), (106, vi b.counts.length), (107, vb false)], [.var b.c]⟩)) Q (fun i ok x hx => ?_) (fun ok => ?_) ok).trans ?_
  · have hlt : i < b.counts.length := (List.getElem?_eq_some_iff.1 hx).1
    have hd := hb.c
    have hi : IntKind.i64.wrap ((i : Int) + 1) = i + 1 := wrap_i64 (by omega) (by omega)
    simp only [go_sem, simprocAttr, candle_Check_B4]
    repeat' (first | ((first | (refine br_yes (by omega) ?_) | (refine br_no (by omega) ?_) | (apply br_all; (· simp only [Bool.and_eq_true, decide_eq_true_eq]; omega)) | (apply br_free; (· simp [go_sem, Pm.acc, Acc.free, refsOf, offOf, keyEq, tagEq, cellsEq, cellEq]; done)) | ((first | apply br_mergeT | apply br_mergeF); (· intro h; simp only [go_sem, simprocAttr, sel_of h, hx, hi]; exact rfl))); (try simp only [go_sem, simprocAttr, hx, hi])) | ((first | apply onGuard_sel | (apply pickV_split; apply br_split) | apply br_split) <;> intro h <;> (try simp only [go_sem, simprocAttr, h, hx, hi])))
    all_goals (simp_all; done)
  · simp only [go_sem, simprocAttr, candle_Check_B4]
  · rw [foldl_and]

@[go_sem] theorem check_k (b : Book) [hb : b.Fits] : K Γ (.fn 4) [.agg b.c] [] = some (vi (if b.valid then 0 else 60), []) := by
  rw [K_fn P06.f4 _ _ rfl]
  simp only [go_sem, simprocAttr, candle_Check]
  repeat' (first | ((first | (refine br_yes (by omega) ?_) | (refine br_no (by omega) ?_) | (apply br_all; (· simp only [Bool.and_eq_true, decide_eq_true_eq]; omega)) | (apply br_free; (· simp [go_sem, Pm.acc, Acc.free, refsOf, offOf, keyEq, tagEq, cellsEq, cellEq]; done)) | ((first | apply br_mergeT | apply br_mergeF); (· intro h; simp only [go_sem, simprocAttr, sel_of h]; exact rfl))); (try simp only [go_sem, simprocAttr])) | ((first | apply onGuard_sel | (apply pickV_split; apply br_split) | apply br_split) <;> intro h <;> (try simp only [go_sem, simprocAttr, h])))
  · replace h : (!b.valid) = true := h
    rw [Bool.not_eq_true'] at h; rw [h]; rfl
  · replace h : (!b.valid) = false := h
    rw [Bool.not_eq_false'] at h; rw [h]; rfl
end
end Go.Pm.Cd

namespace Go.Pm.Cd
open Ac
set_option maxRecDepth 100000
set_option linter.unusedSimpArgs false
section
variable {Γ : Env} [P06 Γ]

@[go_sem] theorem none_k : K Γ (.fn 78) [] [] = some (.agg [ci 0, ci 0], []) := by
  rw [K_fn P06.f78 _ _ rfl]
  simp only [go_sem, simprocAttr, candle_none]

@[go_sem] theorem sum_k (k : SK) (a b c : Int) : K Γ (.fn 79) [.sc (.sl k 1 [[ci a], [ci b], [ci c]])] [] = some (vi (IntKind.i64.wrap (IntKind.i64.wrap (IntKind.i64.wrap (0 + a) + b) + c)), []) := by
  rw [K_fn P06.f79 _ _ rfl]
  simp only [go_sem, simprocAttr, candle_sum_int, candle_sum_int_L0, candle_sum_int_B0, E_loop]
  repeat' (first | ((first | (refine br_yes (by omega) ?_) | (refine br_no (by omega) ?_) | (apply br_all; (· simp only [Bool.and_eq_true, decide_eq_true_eq]; omega)) | (apply br_free; (· simp [go_sem, Pm.acc, Acc.free, refsOf, offOf, keyEq, tagEq, cellsEq, cellEq]; done)) | ((first | apply br_mergeT | apply br_mergeF); (· intro h; simp only [go_sem, simprocAttr, sel_of h, candle_sum_int, candle_sum_int_L0, candle_sum_int_B0, E_loop]; exact rfl))); (try simp only [go_sem, simprocAttr, candle_sum_int, candle_sum_int_L0, candle_sum_int_B0, E_loop])) | ((first | apply onGuard_sel | (apply pickV_split; apply br_split) | apply br_split) <;> intro h <;> (try simp only [go_sem, simprocAttr, h, candle_sum_int, candle_sum_int_L0, candle_sum_int_B0, E_loop])))

def B13 (b : Book) (m t : C) : List C := [ci b.s0.lo, ci b.s0.hi, ci b.s1.lo, ci b.s1.hi, ci b.f0.lo, ci b.f0.hi, ci b.f1.lo, ci b.f1.hi, .sl b.kd 5 (b.days.map Day.c), .sl b.ko 3 (b.orders.map Order.c), .sl b.kc 4 (b.counts.map Count.c), m, t]
section
variable (b : Book) (m t : C)
@[go_sem] theorem B13_8 : (B13 b m t)[8]? = some (.sl b.kd 5 (b.days.map Day.c)) := nrfl rfl
@[go_sem] theorem B13_9 : (B13 b m t)[9]? = some (.sl b.ko 3 (b.orders.map Order.c)) := nrfl rfl
@[go_sem] theorem B13_10 : (B13 b m t)[10]? = some (.sl b.kc 4 (b.counts.map Count.c)) := nrfl rfl
@[go_sem] theorem B13_11 : (B13 b m t)[11]? = some m := nrfl rfl
@[go_sem] theorem B13_12 : (B13 b m t)[12]? = some t := nrfl rfl
@[go_sem] theorem B13_len : (B13 b m t).length = 13 := nrfl rfl
@[go_sem] theorem B13_all : cellsAt (B13 b m t) 0 13 = some (B13 b m t) := nrfl rfl
@[go_sem] theorem B13_s0 : cellsAt (B13 b m t) 0 2 = some [ci b.s0.lo, ci b.s0.hi] := nrfl rfl
@[go_sem] theorem B13_s1 : cellsAt (B13 b m t) 2 2 = some [ci b.s1.lo, ci b.s1.hi] := nrfl rfl
@[go_sem] theorem B13_f0 : cellsAt (B13 b m t) 4 2 = some [ci b.f0.lo, ci b.f0.hi] := nrfl rfl
@[go_sem] theorem B13_f1 : cellsAt (B13 b m t) 6 2 = some [ci b.f1.lo, ci b.f1.hi] := nrfl rfl
@[go_sem] theorem B13_b : cellsAt (B13 b m t) 0 11 = some b.c := nrfl rfl
@[go_sem] theorem B13_un : (B13 b m t).map unown = B13 b (unown m) (unown t) := nrfl rfl
@[go_sem] theorem B13_set12 (c : C) : (B13 b m t).set 12 c = B13 b m c := nrfl rfl
@[go_sem] theorem B13_setAll12 (c : C) : setAll (B13 b m t) 12 [c] = B13 b m c := nrfl rfl
@[go_sem] theorem B13_setAll11 (c : C) : setAll (B13 b m t) 11 [c] = B13 b c t := nrfl rfl
@[go_sem] theorem B13_setBook (z0 z1 z2 z3 z4 z5 z6 z7 z8 z9 z10 : C) : setAll [z0, z1, z2, z3, z4, z5, z6, z7, z8, z9, z10, m, t] 0 b.c = B13 b m t := nrfl rfl
@[go_sem] theorem B13_setB13 (m' t' : C) : setAll (B13 b m t) 0 (B13 b m' t') = B13 b m' t' := nrfl rfl
@[go_sem] theorem B13_setB13' (z0 z1 z2 z3 z4 z5 z6 z7 z8 z9 z10 z11 z12 : C) : setAll [z0, z1, z2, z3, z4, z5, z6, z7, z8, z9, z10, z11, z12] 0 (B13 b m t) = B13 b m t := nrfl rfl
@[go_sem] theorem B13_set11 (c : C) : (B13 b m t).set 11 c = B13 b c t := nrfl rfl
@[go_sem] theorem B13_under (n : Nat) : C.underL n (B13 b m t) = C.underL n [m, t] := nrfl rfl
@[go_sem] theorem B13_take : (B13 b m t).take 13 = B13 b m t := nrfl rfl
@[go_sem] theorem B13_drop : (B13 b m t).drop 13 = [] := nrfl rfl
@[go_sem] theorem B13_pure : C.pureL (B13 b m t) = C.pureL [m, t] := nrfl rfl
end

def after1 (n c f l h : Int) : Int := n + c - (h + f - 1).tdiv f * l

theorem each_bound (f h : Int) (hf : 1 ≤ f ∧ f ≤ 6) (hh : 0 ≤ h ∧ h ≤ 6) : 0 ≤ (h + f - 1).tdiv f ∧ (h + f - 1).tdiv f ≤ 6 := by
  rw [Int.tdiv_eq_ediv_of_nonneg (by omega)]
  constructor
  · exact Int.ediv_nonneg (by omega) (by omega)
  · have : f = 1 ∨ f = 2 ∨ f = 3 ∨ f = 4 ∨ f = 5 ∨ f = 6 := by omega
    rcases this with rfl | rfl | rfl | rfl | rfl | rfl <;> omega

theorem burnt_bound (f l h : Int) (hf : 1 ≤ f ∧ f ≤ 6) (hh : 0 ≤ h ∧ h ≤ 6) (hl : 0 ≤ l ∧ l ≤ 9) : 0 ≤ (h + f - 1).tdiv f * l ∧ (h + f - 1).tdiv f * l ≤ 54 := by
  have hq := each_bound f h hf hh
  exact ⟨Int.mul_nonneg hq.1 hl.1, by
    have := Int.mul_le_mul hq.2 hl.2 hl.1 (by omega : (0:Int) ≤ 6)
    omega⟩

theorem after_w (n c f l h : Int) (hn : -100000 ≤ n ∧ n ≤ 100000) (hc : 0 ≤ c ∧ c ≤ 100000) (hf : 1 ≤ f ∧ f ≤ 6) (hh : 0 ≤ h ∧ h ≤ 6) (hl : 0 ≤ l ∧ l ≤ 9) :
    IntKind.i64.wrap (IntKind.i64.wrap (IntKind.i64.wrap (0 + n) + c) + IntKind.i64.wrap (IntKind.i64.wrap (0 - IntKind.i64.wrap ((IntKind.i64.wrap (IntKind.i64.wrap (h + f) - 1)).tdiv f)) * l)) = after1 n c f l h := by
  have hq := each_bound f h hf hh
  have hm := burnt_bound f l h hf hh hl
  rw [wrap_i64 (x := h + f) (by omega) (by omega), wrap_i64 (x := h + f - 1) (by omega) (by omega)]
  simp only [after1]
  generalize hqq : (h + f - 1).tdiv f = q at hq hm ⊢
  rw [wrap_i64 (x := q) (by omega) (by omega), wrap_i64 (x := 0 - q) (by omega) (by omega), Int.sub_mul, Int.zero_mul]
  generalize q * l = m at hm ⊢
  rw [wrap_i64 (x := 0 - m) (by omega) (by omega), wrap_i64 (x := 0 + n) (by omega) (by omega), wrap_i64 (x := 0 + n + c) (by omega) (by omega), wrap_i64 (by omega) (by omega)]
  omega

theorem after1_idle (c f l : Int) (hf : 1 ≤ f) : after1 0 c f l 0 = c := by
  have : (0 + f - 1 : Int).tdiv f = 0 := Int.tdiv_eq_zero_of_lt (by omega) (by omega)
  simp only [after1, this]; omega

@[go_sem] theorem after_k (b : Book) (l : List (Int × Int × Int)) (t : C) (ht : C.pureL [t] = true) (n0 n1 f0 f1 dark : Int) (d : Nat) (x : Day) (hx : b.days[d]? = some x)
    (hn0 : -100000 ≤ n0 ∧ n0 ≤ 100000) (hn1 : -100000 ≤ n1 ∧ n1 ≤ 100000) (hf0 : 1 ≤ f0 ∧ f0 ≤ 6) (hf1 : 1 ≤ f1 ∧ f1 ≤ 6) (hd : 0 ≤ dark) (hh : 0 ≤ x.hours ∧ x.hours ≤ 6)
    (hl0 : 0 ≤ x.l0 ∧ x.l0 ≤ 9) (hl1 : 0 ≤ x.l1 ∧ x.l1 ≤ 9) (hc : ∀ a b, 0 ≤ got2 l a b ∧ got2 l a b ≤ 100000) :
    K Γ (.fn 77) [.agg (B13 b (.imap true false (enc2 l)) t), .agg [ci n0, ci n1], .agg [ci f0, ci f1], vi d, vi dark] [] =
      some (.agg [ci (after1 n0 (got2 l 0 d) f0 x.l0 (min x.hours dark)), ci (after1 n1 (got2 l 1 d) f1 x.l1 (min x.hours dark))], []) := by
  have hlt : d < b.days.length := (List.getElem?_eq_some_iff.1 hx).1
  have hp : C.pureL [C.imap true false (enc2 l), t] = true := by simpa [C.pureL, C.pure] using ht
  have hq : C.pureL (B13 b (C.imap true false (enc2 l)) t) = true := hp
  have hu (n : Nat) : C.underL n (B13 b (C.imap true false (enc2 l)) t) = true := pureL_underL0 n _ hq
  have e0 := after_w n0 (got2 l 0 d) f0 x.l0 (min x.hours dark) hn0 (hc _ _) hf0 (by omega) hl0
  have e1 := after_w n1 (got2 l 1 d) f1 x.l1 (min x.hours dark) hn1 (hc _ _) hf1 (by omega) hl1
  rw [K_fn P06.f77 _ _ rfl]
  simp only [go_sem, simprocAttr, candle_book_after, hx, candle_book_after_L0, candle_book_after_B0, E_loop, hp, hq, hu]
  repeat' (first | ((first | (refine br_yes (by omega) ?_) | (refine br_no (by omega) ?_) | (apply br_all; (· simp only [Bool.and_eq_true, decide_eq_true_eq]; omega)) | (apply br_free; (· simp [go_sem, Pm.acc, Acc.free, refsOf, offOf, keyEq, tagEq, cellsEq, cellEq]; done)) | ((first | apply br_mergeT | apply br_mergeF); (· intro h; simp only [go_sem, simprocAttr, sel_of h, candle_book_after, hx, candle_book_after_L0, candle_book_after_B0, E_loop, hp, hq, hu, e0, e1]; exact rfl))); (try simp only [go_sem, simprocAttr, candle_book_after, hx, candle_book_after_L0, candle_book_after_B0, E_loop, hp, hq, hu, e0, e1])) | ((first | apply onGuard_sel | (apply pickV_split; apply br_split) | apply br_split) <;> intro h <;> (try simp only [go_sem, simprocAttr, h, candle_book_after, hx, candle_book_after_L0, candle_book_after_B0, E_loop, hp, hq, hu, e0, e1])))
  · simp only [Bool.and_eq_true, decide_eq_true_eq] at h
    obtain ⟨⟨rfl, rfl⟩, h⟩ := h
    rw [h, after1_idle _ _ _ hf0.1, after1_idle _ _ _ hf1.1]

/-! What counts say. -/
def idxOf (n : Int) (l : List Int) : Int := match findFrom (fun _ x => decide (n = x)) 0 l with | some (i, _) => i | none => -1
theorem idxOf_nonneg (n : Int) (l : List Int) : decide (0 ≤ idxOf n l) = l.contains n := by
  unfold idxOf
  cases h : findFrom (fun _ x => decide (n = x)) 0 l with
  | none =>
    rw [findFrom_none] at h
    rw [eq_comm, decide_eq_false (by decide), Bool.eq_false_iff]
    intro hc; rw [List.contains_iff_mem, List.mem_iff_getElem?] at hc
    obtain ⟨i, hi⟩ := hc
    have := h i n hi
    simp at this
  | some q =>
    obtain ⟨-, h2, h3, -⟩ := findFrom_some h
    simp only [decide_eq_true_eq] at h3
    rw [h3, List.contains_iff_mem.2 (List.mem_iff_getElem?.2 ⟨_, h2⟩)]
    simp

@[go_sem] theorem index_k (k : SK) (l : List Int) (n : Int) (hl : l.length ≤ 1000000) : K Γ (.fn 83) [.sc (.sl k 1 (l.map fun x => [ci x])), vi n] [] = some (vi (idxOf n l), []) := by
  rw [K_fn P06.f83 _ _ rfl]
  simp only [go_sem, simprocAttr, slices_Index_int_int]
  refine (E_find (fun i => ⟨[(0, .sc (.sl k 1 (l.map fun x => [ci x]))), (1, vi n), (7, vi l.length), (8, vi i)], []⟩) l (fun _ x => decide (n = x))
    (fun i x => (.ret, ⟨[(4, vi i)], []⟩)) (.exit 0, ⟨[(0, .sc (.sl k 1 (l.map fun x => [ci x]))), (1, vi n), (7, vi l.length), (8, vi l.length), (9, vb false)], []⟩) _ ?_ ?_ ?_).trans ?_
  · intro i x hx hf
    have hlt : i < l.length := (List.getElem?_eq_some_iff.1 hx).1
    have hi : IntKind.i64.wrap ((i : Int) + 1) = i + 1 := wrap_i64 (by omega) (by omega)
    simp only [go_sem, simprocAttr, slices_Index_int_int_B0, hx, hi]
    repeat' (first | ((first | (refine br_yes (by omega) ?_) | (refine br_no (by omega) ?_) | (apply br_all; (· simp only [Bool.and_eq_true, decide_eq_true_eq]; omega)) | (apply br_free; (· simp [go_sem, Pm.acc, Acc.free, refsOf, offOf, keyEq, tagEq, cellsEq, cellEq]; done)) | ((first | apply br_mergeT | apply br_mergeF); (· intro h; simp only [go_sem, simprocAttr, sel_of h, hx, hi, hf]; exact rfl))); (try simp only [go_sem, simprocAttr, hx, hi, hf])) | ((first | apply onGuard_sel | (apply pickV_split; apply br_split) | apply br_split) <;> intro h <;> (try simp only [go_sem, simprocAttr, h, hx, hi, hf])))
    rfl
  · intro i x hx hf
    have hlt : i < l.length := (List.getElem?_eq_some_iff.1 hx).1
    simp only [go_sem, simprocAttr, slices_Index_int_int_B0, hx]
    repeat' (first | ((first | (refine br_yes (by omega) ?_) | (refine br_no (by omega) ?_) | (apply br_all; (· simp only [Bool.and_eq_true, decide_eq_true_eq]; omega)) | (apply br_free; (· simp [go_sem, Pm.acc, Acc.free, refsOf, offOf, keyEq, tagEq, cellsEq, cellEq]; done)) | ((first | apply br_mergeT | apply br_mergeF); (· intro h; simp only [go_sem, simprocAttr, sel_of h, hx, hf]; exact rfl))); (try simp only [go_sem, simprocAttr, hx, hf])) | ((first | apply onGuard_sel | (apply pickV_split; apply br_split) | apply br_split) <;> intro h <;> (try simp only [go_sem, simprocAttr, h, hx, hf])))
  · simp only [go_sem, simprocAttr, slices_Index_int_int_B0]
  · cases h : findFrom (fun _ x => decide (n = x)) 0 l with
    | none => simp only [go_sem, simprocAttr, idxOf, h]
    | some q => simp only [go_sem, simprocAttr, idxOf, h]

@[go_sem] theorem contains_k (k : SK) (l : List Int) (n : Int) (hl : l.length ≤ 1000000) : K Γ (.fn 76) [.sc (.sl k 1 (l.map fun x => [ci x])), vi n] [] = some (vb (l.contains n), []) := by
  rw [K_fn P06.f76 _ _ rfl]
  simp only [go_sem, simprocAttr, slices_Contains_int_int, hl, idxOf_nonneg]

def Count.off (but : List Int) (day n0 n1 : Int) (i : Nat) (x : Count) : Bool := decide (x.day = day) && !but.contains (i : Int) && !within (x.left - (if x.kind = 0 then n0 else n1)) (-x.err) x.err

def Book.rightOn (b : Book) (but : List Int) (day n0 n1 : Int) : Bool := (findFrom (Count.off but day n0 n1) 0 b.counts).isNone

@[go_sem] theorem right_k (b : Book) [hb : b.Fits] (m t : C) (hm : C.pureL [m, t] = true) (k : SK) (but : List Int) (hl : but.length ≤ 1000000) (day n0 n1 : Int) (hn0 : -100000 ≤ n0 ∧ n0 ≤ 100000) (hn1 : -100000 ≤ n1 ∧ n1 ≤ 100000)
    (hc : ∀ x, x ∈ b.counts → b.isCount x = true) :
    K Γ (.fn 68) [.agg (B13 b m t), vi day, .agg [ci n0, ci n1], .sc (.sl k 1 (but.map fun x => [ci x]))] [] = some (vb (b.rightOn but day n0 n1), []) := by
  have hu (n : Nat) : C.underL n (B13 b m t) = true := pureL_underL0 n _ hm
  rw [K_fn P06.f68 _ _ rfl]
  simp only [go_sem, simprocAttr, candle_book_right, hm, hu]
  refine (E_find (fun i => ⟨[(1, vi day), (3, .sc (.sl k 1 (but.map fun x => [ci x]))), (6, .sc (.ptr 1 0)), (13, .sc (.sl b.kc 4 (b.counts.map Count.c))), (14, vi b.counts.length), (15, vi i)], [.var (B13 b m t), .var [ci n0, ci n1]]⟩) b.counts (Count.off but day n0 n1)
    (fun i x => (.ret, ⟨[(8, vb false)], [.var (B13 b m t), .var [ci n0, ci n1], .var x.c]⟩)) (.exit 0, ⟨[(1, vi day), (3, .sc (.sl k 1 (but.map fun x => [ci x]))), (6, .sc (.ptr 1 0)), (13, .sc (.sl b.kc 4 (b.counts.map Count.c))), (14, vi b.counts.length), (15, vi b.counts.length), (16, vb false)], [.var (B13 b m t), .var [ci n0, ci n1]]⟩) _ ?_ ?_ ?_).trans ?_
  · intro i x hx hf
    have hlt : i < b.counts.length := (List.getElem?_eq_some_iff.1 hx).1
    have hbc := hb.c
    have hi : IntKind.i64.wrap ((i : Int) + 1) = i + 1 := wrap_i64 (by omega) (by omega)
    have hv := hc x (List.mem_of_getElem? hx)
    simp only [Book.isCount, within, Bool.and_eq_true, decide_eq_true_eq] at hv
    have hs0 : IntKind.i64.wrap (x.left - n0) = x.left - n0 := wrap_i64 (by omega) (by omega)
    have hs1 : IntKind.i64.wrap (x.left - n1) = x.left - n1 := wrap_i64 (by omega) (by omega)
    have he : IntKind.i64.wrap (0 - x.err) = -x.err := by rw [wrap_i64 (by omega) (by omega)]; omega
    have hk : x.kind = 0 ∨ x.kind = 1 := by omega
    rcases hk with hk | hk
    · have ho : (decide (x.day = day) && !but.contains (i : Int) && !within (x.left - n0) (-x.err) x.err) = false := by simpa [Count.off, hk] using hf
      simp only [go_sem, simprocAttr, candle_book_right_B0, hx, hi, hk, hs0, hs1, he, hl, hu]
      repeat' (first | ((first | (refine br_yes (by omega) ?_) | (refine br_no (by omega) ?_) | (apply br_all; (· simp only [Bool.and_eq_true, decide_eq_true_eq]; omega)) | (apply br_free; (· simp [go_sem, Pm.acc, Acc.free, refsOf, offOf, keyEq, tagEq, cellsEq, cellEq]; done)) | ((first | apply br_mergeT | apply br_mergeF); (· intro h; simp only [go_sem, simprocAttr, sel_of h, hx, hi, hk, hs0, hs1, he, hl, hu, ho]; exact rfl))); (try simp only [go_sem, simprocAttr, hx, hi, hk, hs0, hs1, he, hl, hu, ho])) | ((first | apply onGuard_sel | (apply pickV_split; apply br_split) | apply br_split) <;> intro h <;> (try simp only [go_sem, simprocAttr, h, hx, hi, hk, hs0, hs1, he, hl, hu, ho])))
      rfl
    · have ho : (decide (x.day = day) && !but.contains (i : Int) && !within (x.left - n1) (-x.err) x.err) = false := by simpa [Count.off, hk] using hf
      simp only [go_sem, simprocAttr, candle_book_right_B0, hx, hi, hk, hs0, hs1, he, hl, hu]
      repeat' (first | ((first | (refine br_yes (by omega) ?_) | (refine br_no (by omega) ?_) | (apply br_all; (· simp only [Bool.and_eq_true, decide_eq_true_eq]; omega)) | (apply br_free; (· simp [go_sem, Pm.acc, Acc.free, refsOf, offOf, keyEq, tagEq, cellsEq, cellEq]; done)) | ((first | apply br_mergeT | apply br_mergeF); (· intro h; simp only [go_sem, simprocAttr, sel_of h, hx, hi, hk, hs0, hs1, he, hl, hu, ho]; exact rfl))); (try simp only [go_sem, simprocAttr, hx, hi, hk, hs0, hs1, he, hl, hu, ho])) | ((first | apply onGuard_sel | (apply pickV_split; apply br_split) | apply br_split) <;> intro h <;> (try simp only [go_sem, simprocAttr, h, hx, hi, hk, hs0, hs1, he, hl, hu, ho])))
      rfl
  · intro i x hx hf
    have hlt : i < b.counts.length := (List.getElem?_eq_some_iff.1 hx).1
    have hv := hc x (List.mem_of_getElem? hx)
    simp only [Book.isCount, within, Bool.and_eq_true, decide_eq_true_eq] at hv
    have hs0 : IntKind.i64.wrap (x.left - n0) = x.left - n0 := wrap_i64 (by omega) (by omega)
    have hs1 : IntKind.i64.wrap (x.left - n1) = x.left - n1 := wrap_i64 (by omega) (by omega)
    have he : IntKind.i64.wrap (0 - x.err) = -x.err := by rw [wrap_i64 (by omega) (by omega)]; omega
    have hk : x.kind = 0 ∨ x.kind = 1 := by omega
    rcases hk with hk | hk
    · have ho : (decide (x.day = day) && !but.contains (i : Int) && !within (x.left - n0) (-x.err) x.err) = true := by simpa [Count.off, hk] using hf
      simp only [go_sem, simprocAttr, candle_book_right_B0, hx, hk, hs0, hs1, he, hl, hu]
      repeat' (first | ((first | (refine br_yes (by omega) ?_) | (refine br_no (by omega) ?_) | (apply br_all; (· simp only [Bool.and_eq_true, decide_eq_true_eq]; omega)) | (apply br_free; (· simp [go_sem, Pm.acc, Acc.free, refsOf, offOf, keyEq, tagEq, cellsEq, cellEq]; done)) | ((first | apply br_mergeT | apply br_mergeF); (· intro h; simp only [go_sem, simprocAttr, sel_of h, hx, hk, hs0, hs1, he, hl, hu]; exact rfl))); (try simp only [go_sem, simprocAttr, hx, hk, hs0, hs1, he, hl, hu])) | ((first | apply onGuard_sel | (apply pickV_split; apply br_split) | apply br_split) <;> intro h <;> (try simp only [go_sem, simprocAttr, h, hx, hk, hs0, hs1, he, hl, hu])))
      · rw [ho] at h; cases h
    · have ho : (decide (x.day = day) && !but.contains (i : Int) && !within (x.left - n1) (-x.err) x.err) = true := by simpa [Count.off, hk] using hf
      simp only [go_sem, simprocAttr, candle_book_right_B0, hx, hk, hs0, hs1, he, hl, hu]
      repeat' (first | ((first | (refine br_yes (by omega) ?_) | (refine br_no (by omega) ?_) | (apply br_all; (· simp only [Bool.and_eq_true, decide_eq_true_eq]; omega)) | (apply br_free; (· simp [go_sem, Pm.acc, Acc.free, refsOf, offOf, keyEq, tagEq, cellsEq, cellEq]; done)) | ((first | apply br_mergeT | apply br_mergeF); (· intro h; simp only [go_sem, simprocAttr, sel_of h, hx, hk, hs0, hs1, he, hl, hu]; exact rfl))); (try simp only [go_sem, simprocAttr, hx, hk, hs0, hs1, he, hl, hu])) | ((first | apply onGuard_sel | (apply pickV_split; apply br_split) | apply br_split) <;> intro h <;> (try simp only [go_sem, simprocAttr, h, hx, hk, hs0, hs1, he, hl, hu])))
      · rw [ho] at h; cases h
  · simp only [go_sem, simprocAttr, candle_book_right_B0]
  · cases h : findFrom (Count.off but day n0 n1) 0 b.counts with
    | none => simp only [go_sem, simprocAttr, Book.rightOn, h, hu, Option.isNone_none]
    | some q => simp only [go_sem, simprocAttr, Book.rightOn, h, hu, Option.isNone_some]
end
end Go.Pm.Cd

namespace Go.Pm.Cd
open Ac
set_option maxRecDepth 100000
set_option linter.unusedSimpArgs false
section
variable {Γ : Env} [P06 Γ]

def next (t : List Int) (day : Nat) (dk a0 a1 : Int) : List Int := ((t.set day dk).set (7 + day * 2) a0).set (7 + (day * 2 + 1)) a1

def Book.live (b : Book) (l : List (Int × Int × Int)) (but : List Int) : Nat → List Int → Int → Int → Nat → List (List Int)
  | 0, t, _, _, _ => [t]
  | k + 1, t, n0, n1, day => match b.days[day]? with
    | none => []
    | some x => (List.range (x.dark.hi - x.dark.lo + 1).toNat).flatMap fun (j : Nat) =>
      let a0 := after1 n0 (got2 l 0 day) (t.getD 5 0) x.l0 (min x.hours (x.dark.lo + (j : Nat)))
      let a1 := after1 n1 (got2 l 1 day) (t.getD 6 0) x.l1 (min x.hours (x.dark.lo + (j : Nat)))
      if b.rightOn but day a0 a1 then b.live l but k (next t day (x.dark.lo + (j : Nat)) a0 a1) a0 a1 (day + 1) else []

abbrev rightC (b : Book) (m : C) : C := .fn (.fn 68) [some 13] (B13 b m (.sl .nil 17 [])) []
abbrev liveC (b : Book) (m : C) (k : SK) (but : List Int) (p q : Nat) : C := .fn (.fn 69) [] [] [.eptr b.c 0, .ptr p 0, .eptr [rightC b m] 0, .eptr [.sl k 1 (but.map fun x => [ci x])] 0, .ptr q 0]
abbrev truthsC (ts : List (List Int)) : C := ownC 17 (ts.map iv)

theorem valid_day {b : Book} (hv : b.sane = true) {d : Nat} {x : Day} (hx : b.days[d]? = some x) :
    (0 ≤ x.hours ∧ x.hours ≤ 6) ∧ (0 ≤ x.dark.lo ∧ x.dark.lo ≤ x.dark.hi ∧ x.dark.hi ≤ 6 ∧ x.dark.hi - x.dark.lo ≤ 2) ∧ (0 ≤ x.l0 ∧ x.l0 ≤ 9) ∧ (0 ≤ x.l1 ∧ x.l1 ≤ 9) := by
  simp only [Book.sane, Bool.and_eq_true, List.all_eq_true] at hv
  have := hv.1.1.2 x (List.mem_of_getElem? hx)
  simp only [Day.ok, within, Span.is, Bool.and_eq_true, decide_eq_true_eq] at this
  omega
theorem valid_days {b : Book} (hv : b.sane = true) : 1 ≤ b.days.length ∧ b.days.length ≤ 5 ∧ b.orders.length ≤ 4 ∧ b.counts.length ≤ 6 := by
  simp only [Book.sane, within, Bool.and_eq_true, decide_eq_true_eq] at hv
  omega
theorem valid_counts {b : Book} (hv : b.sane = true) : ∀ x, x ∈ b.counts → b.isCount x = true := by
  simp only [Book.sane, Bool.and_eq_true, List.all_eq_true] at hv
  exact hv.2

theorem live_length {b : Book} (hv : b.sane = true) (l : List (Int × Int × Int)) (but : List Int) : ∀ (j : Nat) (t : List Int) (n0 n1 : Int) (day : Nat), (b.live l but j t n0 n1 day).length ≤ 3 ^ j
  | 0, _, _, _, _ => by simp [Book.live]
  | j + 1, t, n0, n1, day => by
    simp only [Book.live]
    cases hx : b.days[day]? with
    | none => simp
    | some x =>
      have hd := (valid_day hv hx).2.1
      refine Nat.le_trans (flatMap_length_le _ (3 ^ j) _ fun i hi => ?_) ?_
      · split
        · exact live_length hv l but j _ _ _ _
        · exact Nat.zero_le _
      · rw [List.length_range, Nat.pow_succ, Nat.mul_comm]
        exact Nat.mul_le_mul_left _ (by omega)

theorem next_len (t : List Int) (day : Nat) (dk a0 a1 : Int) : (next t day dk a0 a1).length = t.length := by simp [next]

theorem next_get5 (t : List Int) (day : Nat) (dk a0 a1 : Int) (h : day < 5) : (next t day dk a0 a1).getD 5 0 = t.getD 5 0 := by
  simp only [next, List.getD, List.getElem?_set]
  rw [if_neg (by omega), if_neg (by omega), if_neg (by omega)]
theorem next_get6 (t : List Int) (day : Nat) (dk a0 a1 : Int) (h : day < 5) : (next t day dk a0 a1).getD 6 0 = t.getD 6 0 := by
  simp only [next, List.getD, List.getElem?_set]
  rw [if_neg (by omega), if_neg (by omega), if_neg (by omega)]
theorem next_next (t : List Int) (day : Nat) (dk a0 a1 dk' c0 c1 : Int) : next (next t day dk a0 a1) day dk' c0 c1 = next t day dk' c0 c1 := by
  apply List.ext_getElem?
  intro i
  simp only [next, List.getElem?_set, List.length_set]
  split <;> (try rfl) <;> split <;> (try rfl) <;> split <;> rfl

theorem live_k (b : Book) [hb : b.Fits] (hv : b.sane = true) (l : List (Int × Int × Int)) (hc : ∀ a b, 0 ≤ got2 l a b ∧ got2 l a b ≤ 240) (k : SK) (but : List Int) (hl : but.length ≤ 1000000) :
    ∀ (j day : Nat) (t : List Int) (n0 n1 : Int) (H : List Obj) (n p q : Nat) (ts : List (List Int)), day + j = b.days.length → t.length = 17 → 1 ≤ t.getD 5 0 ∧ t.getD 5 0 ≤ 6 → 1 ≤ t.getD 6 0 ∧ t.getD 6 0 ≤ 6 →
      -60 * day ≤ n0 ∧ n0 ≤ 60 + 240 * day → -60 * day ≤ n1 ∧ n1 ≤ 60 + 240 * day → ts.length + 3 ^ j ≤ room → H.length = n → p < n → q < n → p ≠ q →
      H[p]? = some (.var (B13 b (.imap true false (enc2 l)) (truthsC ts))) → H[q]? = some (.var [liveC b (.imap true false (enc2 l)) k but p q]) → H.all (Obj.under n) = true →
      K Γ (.fn 69) [.agg (iv t), .agg [ci n0, ci n1], vi day, .sc (.eptr b.c 0), .sc (.ptr p 0), .sc (.eptr [rightC b (.imap true false (enc2 l))] 0), .sc (.eptr [.sl k 1 (but.map fun x => [ci x])] 0), .sc (.ptr q 0)] H =
        some (.tup [], H.set p (.var (B13 b (.imap true false (enc2 l)) (truthsC (ts ++ b.live l but j t n0 n1 day))))) := by
  intro j
  induction j with
  | zero =>
    intro day t n0 n1 H n p q ts hday ht hf0 hf1 hn0 hn1 hr hn hp hq hpq hhp hhq hu
    have hpl : p < H.length := by omega
    have hda : (day : Int) = b.days.length := by omega
    rw [K_fn P06.f69 _ _ rfl]
    have hap := appended_ownC 17 (ts.map iv) .full (iv t) (by simpa using hr)
    simp only [go_sem, simprocAttr, candle_opened_1, hhp, hpl, hp, hn, heapB]
    repeat' (first | ((first | (refine br_yes (by omega) ?_) | (refine br_no (by omega) ?_) | (apply br_all; (· simp only [Bool.and_eq_true, decide_eq_true_eq]; omega)) | (apply br_free; (· simp [go_sem, Pm.acc, Acc.free, refsOf, offOf, keyEq, tagEq, cellsEq, cellEq]; done)) | ((first | apply br_mergeT | apply br_mergeF); (· intro h; simp only [go_sem, simprocAttr, sel_of h, hhp, hpl, hp, hn, heapB, iv_all t 17 ht, ht, truthsC, hap, hall_set, hu, hda]; exact rfl))); (try simp only [go_sem, simprocAttr, hhp, hpl, hp, hn, heapB, iv_all t 17 ht, ht, truthsC, hap, hall_set, hu, hda])) | ((first | apply onGuard_sel | (apply pickV_split; apply br_split) | apply br_split) <;> intro h <;> (try simp only [go_sem, simprocAttr, h, hhp, hpl, hp, hn, heapB, iv_all t 17 ht, ht, truthsC, hap, hall_set, hu, hda])))
    simp only [Book.live, List.map_append, List.map_cons, List.map_nil]
  | succ j ih =>
    intro day t n0 n1 H n p q ts hday ht hf0 hf1 hn0 hn1 hr hn hp hq hpq hhp hhq hu
    have hpl : p < H.length := by omega
    have hql : q < H.length := by omega
    have hda : (day : Int) < b.days.length := by omega
    obtain ⟨x, hx⟩ : ∃ x, b.days[day]? = some x := ⟨_, List.getElem?_eq_getElem (by omega)⟩
    obtain ⟨hxh, hxd, hx0, hx1⟩ := valid_day hv hx
    have hvd := valid_days hv
    have hwm : IntKind.i64.wrap (IntKind.i64.wrap (x.dark.hi - x.dark.lo) + 1) = x.dark.hi - x.dark.lo + 1 := by
      rw [wrap_i64 (x := x.dark.hi - x.dark.lo) (by omega) (by omega), wrap_i64 (by omega) (by omega)]
    rw [K_fn P06.f69 _ _ rfl]
    simp only [go_sem, simprocAttr, candle_opened_1, hhp, hpl, hp, hx, hn, heapB]
    repeat' (first | ((first | (refine br_yes (by omega) ?_) | (refine br_no (by omega) ?_) | (apply br_all; (· simp only [Bool.and_eq_true, decide_eq_true_eq]; omega)) | (apply br_free; (· simp [go_sem, Pm.acc, Acc.free, refsOf, offOf, keyEq, tagEq, cellsEq, cellEq]; done)) | ((first | apply br_mergeT | apply br_mergeF); (· intro h; simp only [go_sem, simprocAttr, sel_of h, hhp, hpl, hp, hx, hn, heapB, iv_all t 17 ht, ht, truthsC, hwm]; exact rfl))); (try simp only [go_sem, simprocAttr, hhp, hpl, hp, hx, hn, heapB, iv_all t 17 ht, ht, truthsC, hwm])) | ((first | apply onGuard_sel | (apply pickV_split; apply br_split) | apply br_split) <;> intro h <;> (try simp only [go_sem, simprocAttr, h, hhp, hpl, hp, hx, hn, heapB, iv_all t 17 ht, ht, truthsC, hwm])))
    let a0 (i : Nat) : Int := after1 n0 (got2 l 0 day) (t.getD 5 0) x.l0 (min x.hours (x.dark.lo + i))
    let a1 (i : Nat) : Int := after1 n1 (got2 l 1 day) (t.getD 6 0) x.l1 (min x.hours (x.dark.lo + i))
    let g (i : Nat) : List (List Int) := if b.rightOn but day (a0 i) (a1 i) then b.live l but j (next t day (x.dark.lo + i) (a0 i) (a1 i)) (a0 i) (a1 i) (day + 1) else []
    let acc (i : Nat) : List (List Int) := ts ++ (List.range i).flatMap g
    let S (i : Nat) (t' : List Int) : St := ⟨[(2, vi day), (4, .sc (.ptr p 0)), (5, .sc (.eptr [rightC b (.imap true false (enc2 l))] 0)), (6, .sc (.eptr [.sl k 1 (but.map fun x => [ci x])] 0)), (7, .sc (.ptr q 0)),
      (8, .sc (.ptr n 0)), (9, .sc (.ptr (n + 1) 0)), (11, .sc (.ptr (n + 2) 0)), (36, vi (x.dark.hi - x.dark.lo + 1)), (37, vi i)],
      H.set p (.var (B13 b (.imap true false (enc2 l)) (truthsC (acc i)))) ++ [.var (iv t'), .var [ci n0, ci n1], .var [ci x.dark.lo, ci x.dark.hi]]⟩
    refine Eq.trans (congrArg (fun s => E Γ candle_opened_1_L0 s _) (?_ : _ = S 0 t)) ?_
    · have : H.set p (.var (B13 b (.imap true false (enc2 l)) (truthsC (acc 0)))) = H := by
        apply set_same; simpa [acc] using hhp
      simp only [S, this]; rfl
    refine E_count (x.dark.hi - x.dark.lo + 1).toNat S (fun i t' => t'.length = 17 ∧ t'.getD 5 0 = t.getD 5 0 ∧ t'.getD 6 0 = t.getD 6 0 ∧ ∀ dk c0 c1, next t' day dk c0 c1 = next t day dk c0 c1)
      (fun t' => (.exit 0, ⟨[(2, vi day), (4, .sc (.ptr p 0)), (5, .sc (.eptr [rightC b (.imap true false (enc2 l))] 0)), (6, .sc (.eptr [.sl k 1 (but.map fun x => [ci x])] 0)), (7, .sc (.ptr q 0)),
      (8, .sc (.ptr n 0)), (9, .sc (.ptr (n + 1) 0)), (11, .sc (.ptr (n + 2) 0)), (36, vi (x.dark.hi - x.dark.lo + 1)), (37, vi (x.dark.hi - x.dark.lo + 1)), (38, vb false)],
      H.set p (.var (B13 b (.imap true false (enc2 l)) (truthsC (acc (x.dark.hi - x.dark.lo + 1).toNat)))) ++ [.var (iv t'), .var [ci n0, ci n1], .var [ci x.dark.lo, ci x.dark.hi]]⟩)) t ⟨ht, rfl, rfl, fun _ _ _ => rfl⟩ ?_ ?_ ?_
    · intro i t' him ⟨ht', e5, e6, en⟩
      have hi2 : i ≤ 2 := by omega
      have hiw : IntKind.i64.wrap ((i : Int) + 1) = i + 1 := wrap_i64 (by omega) (by omega)
      have hdw : IntKind.i64.wrap ((day : Int) + 1) = day + 1 := wrap_i64 (by omega) (by omega)
      have hdk : IntKind.i64.wrap (x.dark.lo + i) = x.dark.lo + i := wrap_i64 (by omega) (by omega)
      have hlt : (i : Int) < x.dark.hi - x.dark.lo + 1 := by omega
      have hpp : C.pureL [unown (truthsC (acc i))] = true := by simp [truthsC, C.pureL]; exact pure_unown_ownC ..
      have hA := after_k (Γ := Γ) b l (unown (truthsC (acc i))) hpp n0 n1 (t'.getD 5 0) (t'.getD 6 0) (x.dark.lo + i) day x hx (by omega) (by omega) (by omega) (by omega) (by omega) hxh hx0 hx1 (fun a c => by have := hc a c; omega)
      rw [e5, e6] at hA
      replace hA := hA.trans (show _ = some (V.agg [ci (a0 i), ci (a1 i)], ([] : List Obj)) from rfl)
      have hb0 := burnt_bound (t.getD 5 0) x.l0 (min x.hours (x.dark.lo + i)) hf0 (by omega) hx0
      have hb1 := burnt_bound (t.getD 6 0) x.l1 (min x.hours (x.dark.lo + i)) hf1 (by omega) hx1
      have hc0 := hc 0 day
      have hc1 := hc 1 day
      have ha0 : -60 * ((day : Int) + 1) ≤ a0 i ∧ a0 i ≤ 60 + 240 * ((day : Int) + 1) := by simp only [a0, after1]; omega
      have ha1 : -60 * ((day : Int) + 1) ≤ a1 i ∧ a1 i ≤ 60 + 240 * ((day : Int) + 1) := by simp only [a1, after1]; omega
      have hR := right_k (Γ := Γ) b (.imap true false (enc2 l)) (.sl .nil 17 []) rfl k but hl day (a0 i) (a1 i) (by omega) (by omega) (valid_counts hv)
      have hacc : (acc i).length + 3 ^ j ≤ room := by
        have : (acc i).length ≤ ts.length + i * 3 ^ j := by
          simp only [acc, List.length_append]
          have := flatMap_length_le g (3 ^ j) (List.range i) (fun y _ => by
            simp only [g]; split
            · exact live_length hv l but j _ _ _ _
            · exact Nat.zero_le _)
          rw [List.length_range] at this; omega
        have : i * 3 ^ j ≤ 2 * 3 ^ j := Nat.mul_le_mul_right _ hi2
        rw [Nat.pow_succ] at hr
        omega
      have hacc1 : acc (i + 1) = acc i ++ g i := by simp [acc, List.range_succ]
      cases hro : b.rightOn but day (a0 i) (a1 i) with
      | false =>
        refine ⟨t', ⟨ht', e5, e6, en⟩, ?_⟩
        have hg : acc (i + 1) = acc i := by rw [hacc1]; simp [g, hro]
        simp only [S, hg]
        simp only [go_sem, simprocAttr, candle_opened_1_B0]
        repeat' (first | ((first | (refine br_yes (by omega) ?_) | (refine br_no (by omega) ?_) | (apply br_all; (· simp only [Bool.and_eq_true, decide_eq_true_eq]; omega)) | (apply br_free; (· simp [go_sem, Pm.acc, Acc.free, refsOf, offOf, keyEq, tagEq, cellsEq, cellEq]; done)) | ((first | apply br_mergeT | apply br_mergeF); (· intro h; simp only [go_sem, simprocAttr, sel_of h, hhp, hpl, hp, hn, heapB, hpp, iv_all t' 17 ht', ht', hdk, hdw, hiw, hA, hR, hro, iv_at2, e5, e6, hall_set, hall_mono, hu]; exact rfl))); (try simp only [go_sem, simprocAttr, hhp, hpl, hp, hn, heapB, hpp, iv_all t' 17 ht', ht', hdk, hdw, hiw, hA, hR, hro, iv_at2, e5, e6, hall_set, hall_mono, hu])) | ((first | apply onGuard_sel | (apply pickV_split; apply br_split) | apply br_split) <;> intro h <;> (try simp only [go_sem, simprocAttr, h, hhp, hpl, hp, hn, heapB, hpp, iv_all t' 17 ht', ht', hdk, hdw, hiw, hA, hR, hro, iv_at2, e5, e6, hall_set, hall_mono, hu])))
        rfl
      | true =>
        have hN : ((t'.set day (x.dark.lo + (i : Nat))).set (7 + day * 2) (a0 i)).set (7 + (day * 2 + 1)) (a1 i) = next t day (x.dark.lo + i) (a0 i) (a1 i) := en _ _ _
        have hNl : (next t day (x.dark.lo + i) (a0 i) (a1 i)).length = 17 := by rw [next_len, ht]
        have hN5 : (next t day (x.dark.lo + i) (a0 i) (a1 i)).getD 5 0 = t.getD 5 0 := next_get5 _ _ _ _ _ (by omega)
        have hN6 : (next t day (x.dark.lo + i) (a0 i) (a1 i)).getD 6 0 = t.getD 6 0 := next_get6 _ _ _ _ _ (by omega)
        have hL := ih (day + 1) (next t day (x.dark.lo + i) (a0 i) (a1 i)) (a0 i) (a1 i)
          (H.set p (.var (B13 b (.imap true false (enc2 l)) (truthsC (acc i)))) ++ [.var (iv (next t day (x.dark.lo + i) (a0 i) (a1 i))), .var [ci n0, ci n1], .var [ci x.dark.lo, ci x.dark.hi], .var [ci (a0 i), ci (a1 i)]])
          (n + 4) p q (acc i) (by omega) hNl (by rw [hN5]; exact hf0) (by rw [hN6]; exact hf1) (by push_cast; exact ha0) (by push_cast; exact ha1) hacc
          (by simp [hn]) (by omega) (by omega) hpq (by rw [hget_lt _ _ _ (by simpa using hpl), hget_set _ _ _ hpl]) (by rw [hget_lt _ _ _ (by simpa using hql), hget_set_ne _ _ _ _ hpq, hhq])
          (by rw [List.all_append, hall_mono _ n 4 (hall_set _ _ _ _ hu (by simp only [go_sem, simprocAttr]))]; simp only [go_sem, simprocAttr])
        replace hL : K Γ (.fn 69) [.agg (iv (next t day (x.dark.lo + i) (a0 i) (a1 i))), .agg [ci (a0 i), ci (a1 i)], vi ((day : Int) + 1), .sc (.eptr b.c 0), .sc (.ptr p 0), .sc (.eptr [rightC b (.imap true false (enc2 l))] 0), .sc (.eptr [.sl k 1 (but.map fun x => [ci x])] 0), .sc (.ptr q 0)] _ = _ := hL
        refine ⟨next t day (x.dark.lo + i) (a0 i) (a1 i), ⟨hNl, hN5, hN6, fun dk c0 c1 => next_next _ _ _ _ _ _ _ _⟩, ?_⟩
        have hg : acc (i + 1) = acc i ++ b.live l but j (next t day (x.dark.lo + i) (a0 i) (a1 i)) (a0 i) (a1 i) (day + 1) := by rw [hacc1]; simp [g, hro]
        simp only [S, hg]
        simp only [go_sem, simprocAttr, candle_opened_1_B0]
        repeat' (first | ((first | (refine br_yes (by omega) ?_) | (refine br_no (by omega) ?_) | (apply br_all; (· simp only [Bool.and_eq_true, decide_eq_true_eq]; omega)) | (apply br_free; (· simp [go_sem, Pm.acc, Acc.free, refsOf, offOf, keyEq, tagEq, cellsEq, cellEq]; done)) | ((first | apply br_mergeT | apply br_mergeF); (· intro h; simp only [go_sem, simprocAttr, sel_of h, hhp, hpl, hp, hn, heapB, hpp, iv_all t' 17 ht', iv_all _ 17 hNl, hNl, hN, ht', hdk, hdw, hiw, hA, hR, hro, iv_at2, e5, e6, hall_set, hall_mono, hu, hget_set_ne H p q _ hpq, hhq, hpq, hq, hql, hL]; exact rfl))); (try simp only [go_sem, simprocAttr, hhp, hpl, hp, hn, heapB, hpp, iv_all t' 17 ht', iv_all _ 17 hNl, hNl, hN, ht', hdk, hdw, hiw, hA, hR, hro, iv_at2, e5, e6, hall_set, hall_mono, hu, hget_set_ne H p q _ hpq, hhq, hpq, hq, hql, hL])) | ((first | apply onGuard_sel | (apply pickV_split; apply br_split) | apply br_split) <;> intro h <;> (try simp only [go_sem, simprocAttr, h, hhp, hpl, hp, hn, heapB, hpp, iv_all t' 17 ht', iv_all _ 17 hNl, hNl, hN, ht', hdk, hdw, hiw, hA, hR, hro, iv_at2, e5, e6, hall_set, hall_mono, hu, hget_set_ne H p q _ hpq, hhq, hpq, hq, hql, hL])))
        rfl
    · intro t' ⟨ht', e5, e6, en⟩
      have hm : ((x.dark.hi - x.dark.lo + 1).toNat : Int) = x.dark.hi - x.dark.lo + 1 := by omega
      simp only [S, hm]
      simp only [go_sem, simprocAttr, candle_opened_1_B0]
      repeat' (first | ((first | (refine br_yes (by omega) ?_) | (refine br_no (by omega) ?_) | (apply br_all; (· simp only [Bool.and_eq_true, decide_eq_true_eq]; omega)) | (apply br_free; (· simp [go_sem, Pm.acc, Acc.free, refsOf, offOf, keyEq, tagEq, cellsEq, cellEq]; done)) | ((first | apply br_mergeT | apply br_mergeF); (· intro h; simp only [go_sem, simprocAttr, sel_of h]; exact rfl))); (try simp only [go_sem, simprocAttr])) | ((first | apply onGuard_sel | (apply pickV_split; apply br_split) | apply br_split) <;> intro h <;> (try simp only [go_sem, simprocAttr, h])))
    · intro t' ⟨ht', e5, e6, en⟩
      have : acc (x.dark.hi - x.dark.lo + 1).toNat = ts ++ b.live l but (j + 1) t n0 n1 day := by
        simp only [acc, Book.live, hx]; rfl
      simp only [go_sem, simprocAttr, hn, heapB, hall_set, hu, truthsC, this]
end
end Go.Pm.Cd

namespace Go.Pm.Cd
open Ac
set_option maxRecDepth 100000
set_option linter.unusedSimpArgs false
section
variable {Γ : Env} [P06 Γ]

structure Fam (Γ : Env) (b : Book) (m t : C) {σ : Type} (I : Nat → σ → Prop) (step : σ → Int → Int → Int → Int → σ) (G : σ → List Obj) (N l y f : Nat) : Prop where
  len : ∀ s, (G s).length = N
  und : ∀ s, (G s).all (Obj.under N) = true
  mono : ∀ r s, I (r + 1) s → I r s
  yl : y < N
  fl : f < N
  gy : ∀ s, (G s)[y]? = some (.var [.fn (.yield l) [] [] []])
  gf : ∀ s, (G s)[f]? = some (.var [.fn (.fn 84) [] [] [.ptr y 0, .eptr (B13 b m t) 0, .ptr f 0]])
  yield : ∀ r s (fr : List Obj) (n0 n1 f0 f1 : Int), I (r + 1) s → fr.all (Obj.under (N + fr.length)) = true → b.s0.lo ≤ n0 ∧ n0 ≤ b.s0.hi → b.s1.lo ≤ n1 ∧ n1 ≤ b.s1.hi → b.f0.lo ≤ f0 ∧ f0 ≤ b.f0.hi → b.f1.lo ≤ f1 ∧ f1 ≤ b.f1.hi →
    I r (step s n0 n1 f0 f1) ∧ K Γ (.yield l) [.agg [ci n0, ci n1], .agg [ci f0, ci f1]] (G s ++ fr) = some (vb true, G (step s n0 n1 f0 f1) ++ fr)

theorem Fam.app {b : Book} {m t : C} {σ : Type} {I : Nat → σ → Prop} {step : σ → Int → Int → Int → Int → σ} {G : σ → List Obj} {N l y f : Nat} (hF : Fam Γ b m t I step G N l y f) (fr : List Obj) (hfr : fr.all (Obj.under (N + fr.length)) = true) :
    Fam Γ b m t I step (fun s => G s ++ fr) (N + fr.length) l y f where
  len s := by simp [hF.len s]
  und s := by rw [List.all_append, hall_mono _ N _ (hF.und s), hfr]; rfl
  mono := hF.mono
  yl := by have := hF.yl; omega
  fl := by have := hF.fl; omega
  gy s := by rw [hget_lt _ _ _ (by rw [hF.len s]; exact hF.yl), hF.gy s]
  gf s := by rw [hget_lt _ _ _ (by rw [hF.len s]; exact hF.fl), hF.gf s]
  yield r s gr n0 n1 f0 f1 hs hgr h0 h1 h2 h3 := by
    obtain ⟨hi, he⟩ := hF.yield r s (fr ++ gr) n0 n1 f0 f1 hs (by
      rw [List.all_append, List.length_append, ← Nat.add_assoc, hall_mono _ _ _ hfr, Bool.true_and]
      exact hgr) h0 h1 h2 h3
    refine ⟨hi, ?_⟩
    rw [List.append_assoc, he, List.append_assoc]

theorem Fam.less {b : Book} {m t : C} {σ : Type} {I : Nat → σ → Prop} {step : σ → Int → Int → Int → Int → σ} {G : σ → List Obj} {N l y f : Nat} (hF : Fam Γ b m t I step G N l y f) (r : Nat) (s : σ) : ∀ (k : Nat), I (r + k) s → I r s
  | 0, h => h
  | k + 1, h => hF.less r s k (hF.mono _ _ h)

def FromOk (Γ : Env) (b : Book) (m t : C) (kind : Int) (c : Nat) (pre : Int → Int → Int → Int → Prop) {σ : Type} (I : Nat → σ → Prop) (step : σ → Int → Int → Int → Int → σ) (C : σ → Int → Int → Int → Int → σ) : Prop :=
  ∀ (G : σ → List Obj) (N l y f : Nat), Fam Γ b m t I step G N l y f → ∀ (r : Nat) (s : σ) (n0 n1 f0 f1 : Int), I (r + c) s → pre n0 n1 f0 f1 →
    I r (C s n0 n1 f0 f1) ∧ K Γ (.fn 84) [.agg [ci n0, ci n1], .agg [ci f0, ci f1], vi kind, .sc (.ptr y 0), .sc (.eptr (B13 b m t) 0), .sc (.ptr f 0)] (G s) = some (vb true, G (C s n0 n1 f0 f1))

theorem from_2 (b : Book) (m t : C) {σ : Type} (I : Nat → σ → Prop) (step : σ → Int → Int → Int → Int → σ) :
    FromOk Γ b m t 2 1 (fun n0 n1 f0 f1 => (b.s0.lo ≤ n0 ∧ n0 ≤ b.s0.hi) ∧ (b.s1.lo ≤ n1 ∧ n1 ≤ b.s1.hi) ∧ (b.f0.lo ≤ f0 ∧ f0 ≤ b.f0.hi) ∧ (b.f1.lo ≤ f1 ∧ f1 ≤ b.f1.hi)) I step step := by
  intro G N l y f hF r s n0 n1 f0 f1 hs ⟨h0, h1, h2, h3⟩
  obtain ⟨hi, hY⟩ := hF.yield r s [.var [ci n0, ci n1], .var [ci f0, ci f1]] n0 n1 f0 f1 hs (by simp only [go_sem, simprocAttr]) h0 h1 h2 h3
  refine ⟨hi, ?_⟩
  have hn := hF.len s
  have hyl : y < (G s).length := by rw [hn]; exact hF.yl
  have hy := hF.gy s
  have hu := hF.und (step s n0 n1 f0 f1)
  have hn' := hF.len (step s n0 n1 f0 f1)
  rw [K_fn P06.f84 _ _ rfl]
  (simp only [go_sem, simprocAttr, candle_book_burns_1_1, hn, heapB, hyl, hy, hF.yl, hY, hn', hu]; repeat' (first | ((first | (refine br_yes (by omega) ?_) | (refine br_no (by omega) ?_) | (apply br_all; (· simp only [Bool.and_eq_true, decide_eq_true_eq]; omega)) | (apply br_free; (· simp [go_sem, Pm.acc, Acc.free, refsOf, offOf, keyEq, tagEq, cellsEq, cellEq]; done)) | ((first | apply br_mergeT | apply br_mergeF); (· intro h; simp only [go_sem, simprocAttr, sel_of h, candle_book_burns_1_1, hn, heapB, hyl, hy, hF.yl, hY, hn', hu]; exact rfl))); (try simp only [go_sem, simprocAttr, candle_book_burns_1_1, hn, heapB, hyl, hy, hF.yl, hY, hn', hu])) | ((first | apply onGuard_sel | (apply pickV_split; apply br_split) | apply br_split) <;> intro h <;> (try simp only [go_sem, simprocAttr, h, candle_book_burns_1_1, hn, heapB, hyl, hy, hF.yl, hY, hn', hu]))))

def inner {σ : Type} (C : σ → Int → Int → σ) (sp tp : Span) (s : σ) (i k : Nat) : σ := (List.range k).foldl (fun s j => C s (sp.lo + i) (tp.lo + (j : Nat))) s
def outer {σ : Type} (C : σ → Int → Int → σ) (sp tp : Span) (s : σ) (i : Nat) : σ := (List.range i).foldl (fun s i => inner C sp tp s i (tp.hi - tp.lo + 1).toNat) s
def whole {σ : Type} (C : σ → Int → Int → σ) (sp tp : Span) (s : σ) : σ := outer C sp tp s (sp.hi - sp.lo + 1).toNat

def C1 {σ : Type} (b : Book) (step : σ → Int → Int → Int → Int → σ) (s : σ) (n0 _n1 f0 _f1 : Int) : σ := whole (fun s a c => step s n0 a f0 c) b.s1 b.f1 s

theorem from_1 (b : Book) (m t : C) (hs1 : b.s1.is 0 60 2 = true) (hf1 : b.f1.is 1 6 1 = true) {σ : Type} (I : Nat → σ → Prop) (step : σ → Int → Int → Int → Int → σ) :
    FromOk Γ b m t 1 6 (fun n0 n1 f0 f1 => (b.s0.lo ≤ n0 ∧ n0 ≤ b.s0.hi) ∧ (b.f0.lo ≤ f0 ∧ f0 ≤ b.f0.hi)) I step (C1 b step) := by
  show FromOk Γ b m t 1 6 _ I step (fun s n0 n1 f0 f1 => whole (fun s a c => step s n0 a f0 c) b.s1 b.f1 s)
  intro G N l y f hF r s n0 n1 f0 f1 hs ⟨h0, h2⟩
  simp only [Span.is, Bool.and_eq_true, decide_eq_true_eq] at hs1 hf1
  have hn := hF.len s
  have hyl : y < (G s).length := by rw [hn]; exact hF.yl
  have hfl : f < (G s).length := by rw [hn]; exact hF.fl
  have hy := hF.gy s
  have hf := hF.gf s
  have hu := hF.und s
  have hwm : IntKind.i64.wrap (IntKind.i64.wrap (b.s1.hi - b.s1.lo) + 1) = b.s1.hi - b.s1.lo + 1 := by
    rw [wrap_i64 (x := b.s1.hi - b.s1.lo) (by omega) (by omega), wrap_i64 (by omega) (by omega)]
  have hstI : ∀ r s n1 f1, I (r + 1) s → b.s1.lo ≤ n1 ∧ n1 ≤ b.s1.hi → b.f1.lo ≤ f1 ∧ f1 ≤ b.f1.hi → I r (step s n0 n1 f0 f1) := fun r s n1 f1 hs a1 a3 => (hF.yield r s [] n0 n1 f0 f1 hs rfl h0 a1 h2 a3).1
  have hinI : ∀ (i : Nat), i ≤ b.s1.hi - b.s1.lo → ∀ (k : Nat) R s, I (R + 2) s → k ≤ (b.f1.hi - b.f1.lo + 1).toNat → I (R + 1 * (2 - k)) (inner (fun s a c => step s n0 a f0 c) b.s1 b.f1 s i k) := by
    intro i hi k
    induction k with
    | zero => intro R s hs _; exact hs
    | succ k ih =>
      intro R s hs hk
      simp only [inner, List.range_succ, List.foldl_append, List.foldl_cons, List.foldl_nil]
      refine hstI _ _ _ _ ?_ (by omega) (by omega)
      have := ih R s hs (by omega)
      rwa [show R + 1 * (2 - k) = R + 1 * (2 - (k + 1)) + 1 by omega] at this
  have houI : ∀ (i : Nat), i ≤ (b.s1.hi - b.s1.lo + 1).toNat → I (r + 2 * (3 - i)) (outer (fun s a c => step s n0 a f0 c) b.s1 b.f1 s i) := by
    intro i
    induction i with
    | zero => intro _; exact hs
    | succ i ih =>
      intro hi
      simp only [outer, List.range_succ, List.foldl_append, List.foldl_cons, List.foldl_nil]
      have := ih (by omega)
      rw [show r + 2 * (3 - i) = r + 2 * (3 - (i + 1)) + 2 by omega] at this
      exact hF.less _ _ _ (hinI i (by omega) _ _ _ this (Nat.le_refl _))
  refine ⟨hF.less _ _ _ (houI _ (Nat.le_refl _)), ?_⟩
  rw [K_fn P06.f84 _ _ rfl]
  (simp only [go_sem, simprocAttr, candle_book_burns_1_1, hn, heapB, hyl, hfl, hf, hy, hF.yl, hF.fl, hu, hwm]; repeat' (first | ((first | (refine br_yes (by omega) ?_) | (refine br_no (by omega) ?_) | (apply br_all; (· simp only [Bool.and_eq_true, decide_eq_true_eq]; omega)) | (apply br_free; (· simp [go_sem, Pm.acc, Acc.free, refsOf, offOf, keyEq, tagEq, cellsEq, cellEq]; done)) | ((first | apply br_mergeT | apply br_mergeF); (· intro h; simp only [go_sem, simprocAttr, sel_of h, candle_book_burns_1_1, hn, heapB, hyl, hfl, hf, hy, hF.yl, hF.fl, hu, hwm]; exact rfl))); (try simp only [go_sem, simprocAttr, candle_book_burns_1_1, hn, heapB, hyl, hfl, hf, hy, hF.yl, hF.fl, hu, hwm])) | ((first | apply onGuard_sel | (apply pickV_split; apply br_split) | apply br_split) <;> intro h <;> (try simp only [go_sem, simprocAttr, h, candle_book_burns_1_1, hn, heapB, hyl, hfl, hf, hy, hF.yl, hF.fl, hu, hwm]))))
  refine E_count (b.s1.hi - b.s1.lo + 1).toNat (fun i (a : Int × Int) => ⟨[(2, vi 1), (5, .sc (.ptr f 0)), (6, .sc (.ptr N 0)), (7, .sc (.ptr (N + 1) 0)), (10, .sc (.ptr (N + 2) 0)), (11, .sc (.ptr (N + 3) 0)), (35, vi (b.s1.hi - b.s1.lo + 1)), (36, vi i)],
      G (outer (fun s a c => step s n0 a f0 c) b.s1 b.f1 s i) ++ [.var [ci n0, ci a.1], .var [ci f0, ci a.2], .var [ci b.s1.lo, ci b.s1.hi], .var [ci b.f1.lo, ci b.f1.hi]]⟩) (fun _ _ => True)
    (fun a => (.exit 0, ⟨[(2, vi 1), (5, .sc (.ptr f 0)), (6, .sc (.ptr N 0)), (7, .sc (.ptr (N + 1) 0)), (10, .sc (.ptr (N + 2) 0)), (11, .sc (.ptr (N + 3) 0)), (35, vi (b.s1.hi - b.s1.lo + 1)), (36, vi (b.s1.hi - b.s1.lo + 1)), (37, vb false)],
      G (whole (fun s a c => step s n0 a f0 c) b.s1 b.f1 s) ++ [.var [ci n0, ci a.1], .var [ci f0, ci a.2], .var [ci b.s1.lo, ci b.s1.hi], .var [ci b.f1.lo, ci b.f1.hi]]⟩)) (n1, f1) trivial ?_ ?_ ?_
  · intro i a hi _
    have hi2 : i ≤ 2 := by omega
    have hiw : IntKind.i64.wrap ((i : Int) + 1) = i + 1 := wrap_i64 (by omega) (by omega)
    have hnw : IntKind.i64.wrap (b.s1.lo + i) = b.s1.lo + i := wrap_i64 (by omega) (by omega)
    have hlt : (i : Int) < b.s1.hi - b.s1.lo + 1 := by omega
    have hou : outer (fun s a c => step s n0 a f0 c) b.s1 b.f1 s (i + 1) = inner (fun s a c => step s n0 a f0 c) b.s1 b.f1 (outer (fun s a c => step s n0 a f0 c) b.s1 b.f1 s i) i (b.f1.hi - b.f1.lo + 1).toNat := by
      simp [outer, List.range_succ]
    have hI := houI i (by omega)
    rw [show r + 2 * (3 - i) = r + 2 * (3 - (i + 1)) + 2 by omega] at hI
    generalize hs' : outer (fun s a c => step s n0 a f0 c) b.s1 b.f1 s i = s' at *
    refine ⟨(b.s1.lo + i, b.f1.hi), trivial, ?_⟩
    have hn1 := hF.len s'
    have hu1 := hF.und s'
    (simp only [go_sem, simprocAttr, candle_book_burns_1_1_B0, hn1, heapB, hn]; repeat' (first | ((first | (refine br_yes (by omega) ?_) | (refine br_no (by omega) ?_) | (apply br_all; (· simp only [Bool.and_eq_true, decide_eq_true_eq]; omega)) | (apply br_free; (· simp [go_sem, Pm.acc, Acc.free, refsOf, offOf, keyEq, tagEq, cellsEq, cellEq]; done)) | ((first | apply br_mergeT | apply br_mergeF); (· intro h; simp only [go_sem, simprocAttr, sel_of h, candle_book_burns_1_1_B0, hn1, heapB, hn]; exact rfl))); (try simp only [go_sem, simprocAttr, candle_book_burns_1_1_B0, hn1, heapB, hn])) | ((first | apply onGuard_sel | (apply pickV_split; apply br_split) | apply br_split) <;> intro h <;> (try simp only [go_sem, simprocAttr, h, candle_book_burns_1_1_B0, hn1, heapB, hn]))))
    refine E_countS (b.f1.hi - b.f1.lo + 1).toNat (fun k (a : Int × Int) => ⟨[(2, vi 1), (5, .sc (.ptr f 0)), (6, .sc (.ptr N 0)), (7, .sc (.ptr (N + 1) 0)), (10, .sc (.ptr (N + 2) 0)), (11, .sc (.ptr (N + 3) 0)), (12, vi i), (13, vi (b.f1.lo + k)), (35, vi (b.s1.hi - b.s1.lo + 1)), (36, vi i)],
        G (inner (fun s a c => step s n0 a f0 c) b.s1 b.f1 s' i k) ++ [.var [ci n0, ci a.1], .var [ci f0, ci a.2], .var [ci b.s1.lo, ci b.s1.hi], .var [ci b.f1.lo, ci b.f1.hi]]⟩)
      (fun k a => (0 < k → a = (b.s1.lo + (i : Int), b.f1.lo + (k : Int) - 1)))
      (fun a => (.exit 2, ⟨[(2, vi 1), (5, .sc (.ptr f 0)), (6, .sc (.ptr N 0)), (7, .sc (.ptr (N + 1) 0)), (10, .sc (.ptr (N + 2) 0)), (11, .sc (.ptr (N + 3) 0)), (12, vi i), (13, vi (b.f1.hi + 1)), (35, vi (b.s1.hi - b.s1.lo + 1)), (36, vi i), (44, vb false)],
        G (inner (fun s a c => step s n0 a f0 c) b.s1 b.f1 s' i (b.f1.hi - b.f1.lo + 1).toNat) ++ [.var [ci n0, ci a.1], .var [ci f0, ci a.2], .var [ci b.s1.lo, ci b.s1.hi], .var [ci b.f1.lo, ci b.f1.hi]]⟩)) a ?_ (fun h => absurd h (by omega)) ?_ ?_ ?_
    · simp [inner]
    · intro k a hk ha
      have hin : inner (fun s a c => step s n0 a f0 c) b.s1 b.f1 s' i (k + 1) = step (inner (fun s a c => step s n0 a f0 c) b.s1 b.f1 s' i k) n0 (b.s1.lo + i) f0 (b.f1.lo + k) := by
        simp [inner, List.range_succ]
      have hIk := hinI i (by omega) k _ s' hI (by omega)
      rw [show r + 2 * (3 - (i + 1)) + 1 * (2 - k) = r + 2 * (3 - (i + 1)) + 1 * (2 - (k + 1)) + 1 by omega] at hIk
      generalize hs2 : inner (fun s a c => step s n0 a f0 c) b.s1 b.f1 s' i k = s2 at *
      have hkw : IntKind.i64.wrap (b.f1.lo + k + 1) = b.f1.lo + (k : Int) + 1 := wrap_i64 (by omega) (by omega)
      have hle : b.f1.lo + (k : Int) ≤ b.f1.hi := by omega
      have hF' := hF.app [.var [ci n0, ci (b.s1.lo + i)], .var [ci f0, ci (b.f1.lo + k)], .var [ci b.s1.lo, ci b.s1.hi], .var [ci b.f1.lo, ci b.f1.hi]] (by simp only [go_sem, simprocAttr])
      obtain ⟨hIs, hC⟩ := from_2 (Γ := Γ) b m t I step _ _ _ _ _ hF' _ s2 n0 (b.s1.lo + i) f0 (b.f1.lo + k) hIk ⟨h0, by omega, h2, by omega⟩
      have hn2 := hF.len s2
      have hf2 := hF.gf s2
      have hfl2 : f < (G s2).length := by rw [hn2]; exact hF.fl
      have hn3 := hF.len (step s2 n0 (b.s1.lo + i) f0 (b.f1.lo + k))
      have hu3 := hF.und (step s2 n0 (b.s1.lo + i) f0 (b.f1.lo + k))
      refine ⟨(b.s1.lo + i, b.f1.lo + k), fun _ => by simp; omega, ?_⟩
      rw [hin]
      (simp only [go_sem, simprocAttr, candle_book_burns_1_1_B1, hn2, heapB, hnw, hkw, hfl2, hf2, hF.fl, hF.yl, hn1, hn3, hC, hu3, hall_mono]; repeat' (first | ((first | (refine br_yes (by omega) ?_) | (refine br_no (by omega) ?_) | (apply br_all; (· simp only [Bool.and_eq_true, decide_eq_true_eq]; omega)) | (apply br_free; (· simp [go_sem, Pm.acc, Acc.free, refsOf, offOf, keyEq, tagEq, cellsEq, cellEq]; done)) | ((first | apply br_mergeT | apply br_mergeF); (· intro h; simp only [go_sem, simprocAttr, sel_of h, candle_book_burns_1_1_B1, hn2, heapB, hnw, hkw, hfl2, hf2, hF.fl, hF.yl, hn1, hn3, hC, hu3, hall_mono]; exact rfl))); (try simp only [go_sem, simprocAttr, candle_book_burns_1_1_B1, hn2, heapB, hnw, hkw, hfl2, hf2, hF.fl, hF.yl, hn1, hn3, hC, hu3, hall_mono])) | ((first | apply onGuard_sel | (apply pickV_split; apply br_split) | apply br_split) <;> intro h <;> (try simp only [go_sem, simprocAttr, h, candle_book_burns_1_1_B1, hn2, heapB, hnw, hkw, hfl2, hf2, hF.fl, hF.yl, hn1, hn3, hC, hu3, hall_mono]))))
      simp only [Int.natCast_add, Int.cast_ofNat_Int, Int.add_assoc]
    · intro a ha
      have hm : b.f1.lo + ((b.f1.hi - b.f1.lo + 1).toNat : Int) = b.f1.hi + 1 := by omega
      have hdd : decide (b.f1.hi + 1 ≤ b.f1.hi) = false := decide_eq_false (by omega)
      simp only [hm]
      (simp only [go_sem, simprocAttr, candle_book_burns_1_1_B1, hn1, heapB, hdd, hF.len (inner (fun s a c => step s n0 a f0 c) b.s1 b.f1 s' i (b.f1.hi - b.f1.lo + 1).toNat)]; repeat' (first | ((first | (refine br_yes (by omega) ?_) | (refine br_no (by omega) ?_) | (apply br_all; (· simp only [Bool.and_eq_true, decide_eq_true_eq]; omega)) | (apply br_free; (· simp [go_sem, Pm.acc, Acc.free, refsOf, offOf, keyEq, tagEq, cellsEq, cellEq]; done)) | ((first | apply br_mergeT | apply br_mergeF); (· intro h; simp only [go_sem, simprocAttr, sel_of h, candle_book_burns_1_1_B1, hn1, heapB, hdd, hF.len (inner (fun s a c => step s n0 a f0 c) b.s1 b.f1 s' i (b.f1.hi - b.f1.lo + 1).toNat)]; exact rfl))); (try simp only [go_sem, simprocAttr, candle_book_burns_1_1_B1, hn1, heapB, hdd, hF.len (inner (fun s a c => step s n0 a f0 c) b.s1 b.f1 s' i (b.f1.hi - b.f1.lo + 1).toNat)])) | ((first | apply onGuard_sel | (apply pickV_split; apply br_split) | apply br_split) <;> intro h <;> (try simp only [go_sem, simprocAttr, h, candle_book_burns_1_1_B1, hn1, heapB, hdd, hF.len (inner (fun s a c => step s n0 a f0 c) b.s1 b.f1 s' i (b.f1.hi - b.f1.lo + 1).toNat)]))))
    · intro a ha
      have ha' : a = (b.s1.lo + (i : Int), b.f1.hi) := by rw [ha (by omega)]; simp; omega
      subst ha'
      rw [hou]
      have hn4 := hF.len (inner (fun s a c => step s n0 a f0 c) b.s1 b.f1 s' i (b.f1.hi - b.f1.lo + 1).toNat)
      have hu4 := hF.und (inner (fun s a c => step s n0 a f0 c) b.s1 b.f1 s' i (b.f1.hi - b.f1.lo + 1).toNat)
      (simp only [go_sem, simprocAttr, hn4, heapB, hn1, hiw, hu4, hall_mono, hF.fl, hF.yl]; repeat' (first | ((first | (refine br_yes (by omega) ?_) | (refine br_no (by omega) ?_) | (apply br_all; (· simp only [Bool.and_eq_true, decide_eq_true_eq]; omega)) | (apply br_free; (· simp [go_sem, Pm.acc, Acc.free, refsOf, offOf, keyEq, tagEq, cellsEq, cellEq]; done)) | ((first | apply br_mergeT | apply br_mergeF); (· intro h; simp only [go_sem, simprocAttr, sel_of h, hn4, heapB, hn1, hiw, hu4, hall_mono, hF.fl, hF.yl]; exact rfl))); (try simp only [go_sem, simprocAttr, hn4, heapB, hn1, hiw, hu4, hall_mono, hF.fl, hF.yl])) | ((first | apply onGuard_sel | (apply pickV_split; apply br_split) | apply br_split) <;> intro h <;> (try simp only [go_sem, simprocAttr, h, hn4, heapB, hn1, hiw, hu4, hall_mono, hF.fl, hF.yl]))))
      rfl
  · intro a _
    have hm : ((b.s1.hi - b.s1.lo + 1).toNat : Int) = b.s1.hi - b.s1.lo + 1 := by omega
    simp only [hm]
    (simp only [go_sem, simprocAttr, candle_book_burns_1_1_B0]; repeat' (first | ((first | (refine br_yes (by omega) ?_) | (refine br_no (by omega) ?_) | (apply br_all; (· simp only [Bool.and_eq_true, decide_eq_true_eq]; omega)) | (apply br_free; (· simp [go_sem, Pm.acc, Acc.free, refsOf, offOf, keyEq, tagEq, cellsEq, cellEq]; done)) | ((first | apply br_mergeT | apply br_mergeF); (· intro h; simp only [go_sem, simprocAttr, sel_of h, candle_book_burns_1_1_B0]; exact rfl))); (try simp only [go_sem, simprocAttr, candle_book_burns_1_1_B0])) | ((first | apply onGuard_sel | (apply pickV_split; apply br_split) | apply br_split) <;> intro h <;> (try simp only [go_sem, simprocAttr, h, candle_book_burns_1_1_B0]))))
    rfl
  · intro a _
    have hn' := hF.len (whole (fun s a c => step s n0 a f0 c) b.s1 b.f1 s)
    have hu' := hF.und (whole (fun s a c => step s n0 a f0 c) b.s1 b.f1 s)
    (simp only [go_sem, simprocAttr, hn', heapB, hn, hu']; repeat' (first | ((first | (refine br_yes (by omega) ?_) | (refine br_no (by omega) ?_) | (apply br_all; (· simp only [Bool.and_eq_true, decide_eq_true_eq]; omega)) | (apply br_free; (· simp [go_sem, Pm.acc, Acc.free, refsOf, offOf, keyEq, tagEq, cellsEq, cellEq]; done)) | ((first | apply br_mergeT | apply br_mergeF); (· intro h; simp only [go_sem, simprocAttr, sel_of h, hn', heapB, hn, hu']; exact rfl))); (try simp only [go_sem, simprocAttr, hn', heapB, hn, hu'])) | ((first | apply onGuard_sel | (apply pickV_split; apply br_split) | apply br_split) <;> intro h <;> (try simp only [go_sem, simprocAttr, h, hn', heapB, hn, hu']))))

theorem from_0 (b : Book) (m t : C) (hs0 : b.s0.is 0 60 2 = true) (hf0 : b.f0.is 1 6 1 = true) (hs1 : b.s1.is 0 60 2 = true) (hf1 : b.f1.is 1 6 1 = true) {σ : Type} (I : Nat → σ → Prop) (step : σ → Int → Int → Int → Int → σ) :
    FromOk Γ b m t 0 36 (fun _ _ _ _ => True) I step (fun s n0 n1 f0 f1 => whole (fun s a c => C1 b step s a n1 c f1) b.s0 b.f0 s) := by
  intro G N l y f hF r s n0 n1 f0 f1 hs _
  simp only [Span.is, Bool.and_eq_true, decide_eq_true_eq] at hs0 hf0
  have hn := hF.len s
  have hyl : y < (G s).length := by rw [hn]; exact hF.yl
  have hfl : f < (G s).length := by rw [hn]; exact hF.fl
  have hy := hF.gy s
  have hf := hF.gf s
  have hu := hF.und s
  have hwm : IntKind.i64.wrap (IntKind.i64.wrap (b.s0.hi - b.s0.lo) + 1) = b.s0.hi - b.s0.lo + 1 := by
    rw [wrap_i64 (x := b.s0.hi - b.s0.lo) (by omega) (by omega), wrap_i64 (by omega) (by omega)]
  have hstI : ∀ r s n0 f0, I (r + 6) s → b.s0.lo ≤ n0 ∧ n0 ≤ b.s0.hi → b.f0.lo ≤ f0 ∧ f0 ≤ b.f0.hi → I r (C1 b step s n0 n1 f0 f1) := fun r s n0 f0 hs a1 a3 => (from_1 (Γ := Γ) b m t hs1 hf1 I step _ _ _ _ _ hF r s n0 n1 f0 f1 hs ⟨a1, a3⟩).1
  have hinI : ∀ (i : Nat), i ≤ b.s0.hi - b.s0.lo → ∀ (k : Nat) R s, I (R + 12) s → k ≤ (b.f0.hi - b.f0.lo + 1).toNat → I (R + 6 * (2 - k)) (inner (fun s a c => C1 b step s a n1 c f1) b.s0 b.f0 s i k) := by
    intro i hi k
    induction k with
    | zero => intro R s hs _; exact hs
    | succ k ih =>
      intro R s hs hk
      simp only [inner, List.range_succ, List.foldl_append, List.foldl_cons, List.foldl_nil]
      refine hstI _ _ _ _ ?_ (by omega) (by omega)
      have := ih R s hs (by omega)
      rwa [show R + 6 * (2 - k) = R + 6 * (2 - (k + 1)) + 6 by omega] at this
  have houI : ∀ (i : Nat), i ≤ (b.s0.hi - b.s0.lo + 1).toNat → I (r + 12 * (3 - i)) (outer (fun s a c => C1 b step s a n1 c f1) b.s0 b.f0 s i) := by
    intro i
    induction i with
    | zero => intro _; exact hs
    | succ i ih =>
      intro hi
      simp only [outer, List.range_succ, List.foldl_append, List.foldl_cons, List.foldl_nil]
      have := ih (by omega)
      rw [show r + 12 * (3 - i) = r + 12 * (3 - (i + 1)) + 12 by omega] at this
      exact hF.less _ _ _ (hinI i (by omega) _ _ _ this (Nat.le_refl _))
  refine ⟨hF.less _ _ _ (houI _ (Nat.le_refl _)), ?_⟩
  rw [K_fn P06.f84 _ _ rfl]
  (simp only [go_sem, simprocAttr, candle_book_burns_1_1, hn, heapB, hyl, hfl, hf, hy, hF.yl, hF.fl, hu, hwm]; repeat' (first | ((first | (refine br_yes (by omega) ?_) | (refine br_no (by omega) ?_) | (apply br_all; (· simp only [Bool.and_eq_true, decide_eq_true_eq]; omega)) | (apply br_free; (· simp [go_sem, Pm.acc, Acc.free, refsOf, offOf, keyEq, tagEq, cellsEq, cellEq]; done)) | ((first | apply br_mergeT | apply br_mergeF); (· intro h; simp only [go_sem, simprocAttr, sel_of h, candle_book_burns_1_1, hn, heapB, hyl, hfl, hf, hy, hF.yl, hF.fl, hu, hwm]; exact rfl))); (try simp only [go_sem, simprocAttr, candle_book_burns_1_1, hn, heapB, hyl, hfl, hf, hy, hF.yl, hF.fl, hu, hwm])) | ((first | apply onGuard_sel | (apply pickV_split; apply br_split) | apply br_split) <;> intro h <;> (try simp only [go_sem, simprocAttr, h, candle_book_burns_1_1, hn, heapB, hyl, hfl, hf, hy, hF.yl, hF.fl, hu, hwm]))))
  refine E_count (b.s0.hi - b.s0.lo + 1).toNat (fun i (a : Int × Int) => ⟨[(2, vi 0), (5, .sc (.ptr f 0)), (6, .sc (.ptr N 0)), (7, .sc (.ptr (N + 1) 0)), (10, .sc (.ptr (N + 2) 0)), (11, .sc (.ptr (N + 3) 0)), (35, vi (b.s0.hi - b.s0.lo + 1)), (36, vi i)],
      G (outer (fun s a c => C1 b step s a n1 c f1) b.s0 b.f0 s i) ++ [.var [ci a.1, ci n1], .var [ci a.2, ci f1], .var [ci b.s0.lo, ci b.s0.hi], .var [ci b.f0.lo, ci b.f0.hi]]⟩) (fun _ _ => True)
    (fun a => (.exit 0, ⟨[(2, vi 0), (5, .sc (.ptr f 0)), (6, .sc (.ptr N 0)), (7, .sc (.ptr (N + 1) 0)), (10, .sc (.ptr (N + 2) 0)), (11, .sc (.ptr (N + 3) 0)), (35, vi (b.s0.hi - b.s0.lo + 1)), (36, vi (b.s0.hi - b.s0.lo + 1)), (37, vb false)],
      G (whole (fun s a c => C1 b step s a n1 c f1) b.s0 b.f0 s) ++ [.var [ci a.1, ci n1], .var [ci a.2, ci f1], .var [ci b.s0.lo, ci b.s0.hi], .var [ci b.f0.lo, ci b.f0.hi]]⟩)) (n0, f0) trivial ?_ ?_ ?_
  · intro i a hi _
    have hi2 : i ≤ 2 := by omega
    have hiw : IntKind.i64.wrap ((i : Int) + 1) = i + 1 := wrap_i64 (by omega) (by omega)
    have hnw : IntKind.i64.wrap (b.s0.lo + i) = b.s0.lo + i := wrap_i64 (by omega) (by omega)
    have hlt : (i : Int) < b.s0.hi - b.s0.lo + 1 := by omega
    have hou : outer (fun s a c => C1 b step s a n1 c f1) b.s0 b.f0 s (i + 1) = inner (fun s a c => C1 b step s a n1 c f1) b.s0 b.f0 (outer (fun s a c => C1 b step s a n1 c f1) b.s0 b.f0 s i) i (b.f0.hi - b.f0.lo + 1).toNat := by
      simp [outer, List.range_succ]
    have hI := houI i (by omega)
    rw [show r + 12 * (3 - i) = r + 12 * (3 - (i + 1)) + 12 by omega] at hI
    generalize hs' : outer (fun s a c => C1 b step s a n1 c f1) b.s0 b.f0 s i = s' at *
    refine ⟨(b.s0.lo + i, b.f0.hi), trivial, ?_⟩
    have hn1 := hF.len s'
    have hu1 := hF.und s'
    (simp only [go_sem, simprocAttr, candle_book_burns_1_1_B0, hn1, heapB, hn]; repeat' (first | ((first | (refine br_yes (by omega) ?_) | (refine br_no (by omega) ?_) | (apply br_all; (· simp only [Bool.and_eq_true, decide_eq_true_eq]; omega)) | (apply br_free; (· simp [go_sem, Pm.acc, Acc.free, refsOf, offOf, keyEq, tagEq, cellsEq, cellEq]; done)) | ((first | apply br_mergeT | apply br_mergeF); (· intro h; simp only [go_sem, simprocAttr, sel_of h, candle_book_burns_1_1_B0, hn1, heapB, hn]; exact rfl))); (try simp only [go_sem, simprocAttr, candle_book_burns_1_1_B0, hn1, heapB, hn])) | ((first | apply onGuard_sel | (apply pickV_split; apply br_split) | apply br_split) <;> intro h <;> (try simp only [go_sem, simprocAttr, h, candle_book_burns_1_1_B0, hn1, heapB, hn]))))
    refine E_countS (b.f0.hi - b.f0.lo + 1).toNat (fun k (a : Int × Int) => ⟨[(2, vi 0), (5, .sc (.ptr f 0)), (6, .sc (.ptr N 0)), (7, .sc (.ptr (N + 1) 0)), (10, .sc (.ptr (N + 2) 0)), (11, .sc (.ptr (N + 3) 0)), (12, vi i), (13, vi (b.f0.lo + k)), (35, vi (b.s0.hi - b.s0.lo + 1)), (36, vi i)],
        G (inner (fun s a c => C1 b step s a n1 c f1) b.s0 b.f0 s' i k) ++ [.var [ci a.1, ci n1], .var [ci a.2, ci f1], .var [ci b.s0.lo, ci b.s0.hi], .var [ci b.f0.lo, ci b.f0.hi]]⟩)
      (fun k a => (0 < k → a = (b.s0.lo + (i : Int), b.f0.lo + (k : Int) - 1)))
      (fun a => (.exit 2, ⟨[(2, vi 0), (5, .sc (.ptr f 0)), (6, .sc (.ptr N 0)), (7, .sc (.ptr (N + 1) 0)), (10, .sc (.ptr (N + 2) 0)), (11, .sc (.ptr (N + 3) 0)), (12, vi i), (13, vi (b.f0.hi + 1)), (35, vi (b.s0.hi - b.s0.lo + 1)), (36, vi i), (44, vb false)],
        G (inner (fun s a c => C1 b step s a n1 c f1) b.s0 b.f0 s' i (b.f0.hi - b.f0.lo + 1).toNat) ++ [.var [ci a.1, ci n1], .var [ci a.2, ci f1], .var [ci b.s0.lo, ci b.s0.hi], .var [ci b.f0.lo, ci b.f0.hi]]⟩)) a ?_ (fun h => absurd h (by omega)) ?_ ?_ ?_
    · simp [inner]
    · intro k a hk ha
      have hin : inner (fun s a c => C1 b step s a n1 c f1) b.s0 b.f0 s' i (k + 1) = C1 b step (inner (fun s a c => C1 b step s a n1 c f1) b.s0 b.f0 s' i k) (b.s0.lo + i) n1 (b.f0.lo + k) f1 := by
        simp [inner, List.range_succ]
      have hIk := hinI i (by omega) k _ s' hI (by omega)
      rw [show r + 12 * (3 - (i + 1)) + 6 * (2 - k) = r + 12 * (3 - (i + 1)) + 6 * (2 - (k + 1)) + 6 by omega] at hIk
      generalize hs2 : inner (fun s a c => C1 b step s a n1 c f1) b.s0 b.f0 s' i k = s2 at *
      have hkw : IntKind.i64.wrap (b.f0.lo + k + 1) = b.f0.lo + (k : Int) + 1 := wrap_i64 (by omega) (by omega)
      have hle : b.f0.lo + (k : Int) ≤ b.f0.hi := by omega
      have hF' := hF.app [.var [ci (b.s0.lo + i), ci n1], .var [ci (b.f0.lo + k), ci f1], .var [ci b.s0.lo, ci b.s0.hi], .var [ci b.f0.lo, ci b.f0.hi]] (by simp only [go_sem, simprocAttr])
      obtain ⟨hIs, hC⟩ := from_1 (Γ := Γ) b m t hs1 hf1 I step _ _ _ _ _ hF' _ s2 (b.s0.lo + i) n1 (b.f0.lo + k) f1 hIk ⟨by omega, by omega⟩
      have hn2 := hF.len s2
      have hf2 := hF.gf s2
      have hfl2 : f < (G s2).length := by rw [hn2]; exact hF.fl
      have hn3 := hF.len (C1 b step s2 (b.s0.lo + i) n1 (b.f0.lo + k) f1)
      have hu3 := hF.und (C1 b step s2 (b.s0.lo + i) n1 (b.f0.lo + k) f1)
      refine ⟨(b.s0.lo + i, b.f0.lo + k), fun _ => by simp; omega, ?_⟩
      rw [hin]
      (simp only [go_sem, simprocAttr, candle_book_burns_1_1_B1, hn2, heapB, hnw, hkw, hfl2, hf2, hF.fl, hF.yl, hn1, hn3, hC, hu3, hall_mono]; repeat' (first | ((first | (refine br_yes (by omega) ?_) | (refine br_no (by omega) ?_) | (apply br_all; (· simp only [Bool.and_eq_true, decide_eq_true_eq]; omega)) | (apply br_free; (· simp [go_sem, Pm.acc, Acc.free, refsOf, offOf, keyEq, tagEq, cellsEq, cellEq]; done)) | ((first | apply br_mergeT | apply br_mergeF); (· intro h; simp only [go_sem, simprocAttr, sel_of h, candle_book_burns_1_1_B1, hn2, heapB, hnw, hkw, hfl2, hf2, hF.fl, hF.yl, hn1, hn3, hC, hu3, hall_mono]; exact rfl))); (try simp only [go_sem, simprocAttr, candle_book_burns_1_1_B1, hn2, heapB, hnw, hkw, hfl2, hf2, hF.fl, hF.yl, hn1, hn3, hC, hu3, hall_mono])) | ((first | apply onGuard_sel | (apply pickV_split; apply br_split) | apply br_split) <;> intro h <;> (try simp only [go_sem, simprocAttr, h, candle_book_burns_1_1_B1, hn2, heapB, hnw, hkw, hfl2, hf2, hF.fl, hF.yl, hn1, hn3, hC, hu3, hall_mono]))))
      simp only [Int.natCast_add, Int.cast_ofNat_Int, Int.add_assoc]
    · intro a ha
      have hm : b.f0.lo + ((b.f0.hi - b.f0.lo + 1).toNat : Int) = b.f0.hi + 1 := by omega
      have hdd : decide (b.f0.hi + 1 ≤ b.f0.hi) = false := decide_eq_false (by omega)
      simp only [hm]
      (simp only [go_sem, simprocAttr, candle_book_burns_1_1_B1, hn1, heapB, hdd, hF.len (inner (fun s a c => C1 b step s a n1 c f1) b.s0 b.f0 s' i (b.f0.hi - b.f0.lo + 1).toNat)]; repeat' (first | ((first | (refine br_yes (by omega) ?_) | (refine br_no (by omega) ?_) | (apply br_all; (· simp only [Bool.and_eq_true, decide_eq_true_eq]; omega)) | (apply br_free; (· simp [go_sem, Pm.acc, Acc.free, refsOf, offOf, keyEq, tagEq, cellsEq, cellEq]; done)) | ((first | apply br_mergeT | apply br_mergeF); (· intro h; simp only [go_sem, simprocAttr, sel_of h, candle_book_burns_1_1_B1, hn1, heapB, hdd, hF.len (inner (fun s a c => C1 b step s a n1 c f1) b.s0 b.f0 s' i (b.f0.hi - b.f0.lo + 1).toNat)]; exact rfl))); (try simp only [go_sem, simprocAttr, candle_book_burns_1_1_B1, hn1, heapB, hdd, hF.len (inner (fun s a c => C1 b step s a n1 c f1) b.s0 b.f0 s' i (b.f0.hi - b.f0.lo + 1).toNat)])) | ((first | apply onGuard_sel | (apply pickV_split; apply br_split) | apply br_split) <;> intro h <;> (try simp only [go_sem, simprocAttr, h, candle_book_burns_1_1_B1, hn1, heapB, hdd, hF.len (inner (fun s a c => C1 b step s a n1 c f1) b.s0 b.f0 s' i (b.f0.hi - b.f0.lo + 1).toNat)]))))
    · intro a ha
      have ha' : a = (b.s0.lo + (i : Int), b.f0.hi) := by rw [ha (by omega)]; simp; omega
      subst ha'
      rw [hou]
      have hn4 := hF.len (inner (fun s a c => C1 b step s a n1 c f1) b.s0 b.f0 s' i (b.f0.hi - b.f0.lo + 1).toNat)
      have hu4 := hF.und (inner (fun s a c => C1 b step s a n1 c f1) b.s0 b.f0 s' i (b.f0.hi - b.f0.lo + 1).toNat)
      (simp only [go_sem, simprocAttr, hn4, heapB, hn1, hiw, hu4, hall_mono, hF.fl, hF.yl]; repeat' (first | ((first | (refine br_yes (by omega) ?_) | (refine br_no (by omega) ?_) | (apply br_all; (· simp only [Bool.and_eq_true, decide_eq_true_eq]; omega)) | (apply br_free; (· simp [go_sem, Pm.acc, Acc.free, refsOf, offOf, keyEq, tagEq, cellsEq, cellEq]; done)) | ((first | apply br_mergeT | apply br_mergeF); (· intro h; simp only [go_sem, simprocAttr, sel_of h, hn4, heapB, hn1, hiw, hu4, hall_mono, hF.fl, hF.yl]; exact rfl))); (try simp only [go_sem, simprocAttr, hn4, heapB, hn1, hiw, hu4, hall_mono, hF.fl, hF.yl])) | ((first | apply onGuard_sel | (apply pickV_split; apply br_split) | apply br_split) <;> intro h <;> (try simp only [go_sem, simprocAttr, h, hn4, heapB, hn1, hiw, hu4, hall_mono, hF.fl, hF.yl]))))
      rfl
  · intro a _
    have hm : ((b.s0.hi - b.s0.lo + 1).toNat : Int) = b.s0.hi - b.s0.lo + 1 := by omega
    simp only [hm]
    (simp only [go_sem, simprocAttr, candle_book_burns_1_1_B0]; repeat' (first | ((first | (refine br_yes (by omega) ?_) | (refine br_no (by omega) ?_) | (apply br_all; (· simp only [Bool.and_eq_true, decide_eq_true_eq]; omega)) | (apply br_free; (· simp [go_sem, Pm.acc, Acc.free, refsOf, offOf, keyEq, tagEq, cellsEq, cellEq]; done)) | ((first | apply br_mergeT | apply br_mergeF); (· intro h; simp only [go_sem, simprocAttr, sel_of h, candle_book_burns_1_1_B0]; exact rfl))); (try simp only [go_sem, simprocAttr, candle_book_burns_1_1_B0])) | ((first | apply onGuard_sel | (apply pickV_split; apply br_split) | apply br_split) <;> intro h <;> (try simp only [go_sem, simprocAttr, h, candle_book_burns_1_1_B0]))))
    rfl
  · intro a _
    have hn' := hF.len (whole (fun s a c => C1 b step s a n1 c f1) b.s0 b.f0 s)
    have hu' := hF.und (whole (fun s a c => C1 b step s a n1 c f1) b.s0 b.f0 s)
    (simp only [go_sem, simprocAttr, hn', heapB, hn, hu']; repeat' (first | ((first | (refine br_yes (by omega) ?_) | (refine br_no (by omega) ?_) | (apply br_all; (· simp only [Bool.and_eq_true, decide_eq_true_eq]; omega)) | (apply br_free; (· simp [go_sem, Pm.acc, Acc.free, refsOf, offOf, keyEq, tagEq, cellsEq, cellEq]; done)) | ((first | apply br_mergeT | apply br_mergeF); (· intro h; simp only [go_sem, simprocAttr, sel_of h, hn', heapB, hn, hu']; exact rfl))); (try simp only [go_sem, simprocAttr, hn', heapB, hn, hu'])) | ((first | apply onGuard_sel | (apply pickV_split; apply br_split) | apply br_split) <;> intro h <;> (try simp only [go_sem, simprocAttr, h, hn', heapB, hn, hu']))))

end
end Go.Pm.Cd

namespace Go.Pm.Cd
open Ac
set_option maxRecDepth 100000
set_option linter.unusedSimpArgs false
set_option linter.unusedSectionVars false
section
variable {Γ : Env} [P06 Γ]

def all4 {σ : Type} (b : Book) (step : σ → Int → Int → Int → Int → σ) (s : σ) : σ := whole (fun s a c => C1 b step s a 0 c 0) b.s0 b.f0 s

theorem burns1_k (b : Book) (m t : C) (hmt : C.pureL [m, t] = true) (hs0 : b.s0.is 0 60 2 = true) (hf0 : b.f0.is 1 6 1 = true) (hs1 : b.s1.is 0 60 2 = true) (hf1 : b.f1.is 1 6 1 = true) {σ : Type} (I : Nat → σ → Prop) (step : σ → Int → Int → Int → Int → σ)
    (G : σ → List Obj) (N l : Nat) (hl : l < N) (len : ∀ s, (G s).length = N) (und : ∀ s, (G s).all (Obj.under N) = true) (mono : ∀ r s, I (r + 1) s → I r s)
    (yield : ∀ r s (fr : List Obj) (n0 n1 f0 f1 : Int), I (r + 1) s → fr.all (Obj.under (N + fr.length)) = true → b.s0.lo ≤ n0 ∧ n0 ≤ b.s0.hi → b.s1.lo ≤ n1 ∧ n1 ≤ b.s1.hi → b.f0.lo ≤ f0 ∧ f0 ≤ b.f0.hi → b.f1.lo ≤ f1 ∧ f1 ≤ b.f1.hi →
      I r (step s n0 n1 f0 f1) ∧ K Γ (.yield l) [.agg [ci n0, ci n1], .agg [ci f0, ci f1]] (G s ++ fr) = some (vb true, G (step s n0 n1 f0 f1) ++ fr)) (r : Nat) (s : σ) (hs : I (r + 36) s) :
    I r (all4 b step s) ∧ K Γ (.fn 80) [.sc (.fn (.yield l) [] [] []), .sc (.eptr (B13 b m t) 0)] (G s) = some (.tup [], G (all4 b step s)) := by
  have hu0 (n : Nat) : C.underL n [m, t] = true := pureL_underL0 n _ hmt
  have hF : Fam Γ b m t I step (fun s => G s ++ [.var [.fn (.yield l) [] [] []], .var [.fn (.fn 84) [] [] [.ptr N 0, .eptr (B13 b m t) 0, .ptr (N + 1) 0]]]) (N + 2) l N (N + 1) :=
    { len := fun s => by simp [len s]
      und := fun s => by
        rw [List.all_append, hall_mono _ N 2 (und s)]
        simp [go_sem]; omega
      mono := mono
      yl := by omega
      fl := by omega
      gy := fun s => by rw [hget_eq _ _ _ (len s)]; rfl
      gf := fun s => by rw [hget_ge _ _ _ _ (len s)]; rfl
      yield := fun r s fr n0 n1 f0 f1 hs hfr h0 h1 h2 h3 => by
        obtain ⟨hi, he⟩ := yield r s ([.var [.fn (.yield l) [] [] []], .var [.fn (.fn 84) [] [] [.ptr N 0, .eptr (B13 b m t) 0, .ptr (N + 1) 0]]] ++ fr) n0 n1 f0 f1 hs (by
          rw [List.all_append, List.length_append]
          rw [show N + ([Obj.var [C.fn (.yield l) [] [] []], .var [.fn (.fn 84) [] [] [.ptr N 0, .eptr (B13 b m t) 0, .ptr (N + 1) 0]]].length + fr.length) = N + 2 + fr.length by simp; omega, hfr]
          simp [go_sem]; omega) h0 h1 h2 h3
        refine ⟨hi, ?_⟩
        rw [List.append_assoc, he, List.append_assoc] }
  obtain ⟨hI, hC⟩ := from_0 (Γ := Γ) b m t hs0 hf0 hs1 hf1 I step _ _ _ _ _ hF r s 0 0 0 0 hs trivial
  refine ⟨hI, ?_⟩
  have hn := len s
  have hn2 := len (all4 b step s)
  replace hC := hC.trans (show _ = some (vb true, G (all4 b step s) ++ [.var [.fn (.yield l) [] [] []], .var [.fn (.fn 84) [] [] [.ptr N 0, .eptr (B13 b m t) 0, .ptr (N + 1) 0]]]) from rfl)
  have hu2 := und (all4 b step s)
  rw [K_fn P06.f80 _ _ rfl]
  (simp only [go_sem, simprocAttr, candle_book_burns_1, hn, heapB, hC, hn2, hu2]; repeat' (first | ((first | (refine br_yes (by omega) ?_) | (refine br_no (by omega) ?_) | (apply br_all; (· simp only [Bool.and_eq_true, decide_eq_true_eq]; omega)) | (apply br_free; (· simp [go_sem, Pm.acc, Acc.free, refsOf, offOf, keyEq, tagEq, cellsEq, cellEq]; done)) | ((first | apply br_mergeT | apply br_mergeF); (· intro h; simp only [go_sem, simprocAttr, sel_of h, candle_book_burns_1, hn, heapB, hC, hn2, hu2]; exact rfl))); (try simp only [go_sem, simprocAttr, candle_book_burns_1, hn, heapB, hC, hn2, hu2])) | ((first | apply onGuard_sel | (apply pickV_split; apply br_split) | apply br_split) <;> intro h <;> (try simp only [go_sem, simprocAttr, h, candle_book_burns_1, hn, heapB, hC, hn2, hu2]))))

@[go_sem] theorem burns_k (b : Book) (m t : C) (hmt : C.pureL [m, t] = true) : K Γ (.fn 70) [.agg (B13 b m t)] [] = some (.sc (.fn (.fn 80) [] [] [.eptr (B13 b m t) 0]), []) := by
  have hu0 (n : Nat) : C.underL n [m, t] = true := pureL_underL0 n _ hmt
  simp only [C.pureL, Bool.and_true, Bool.and_eq_true] at hmt
  have e1 : unown m = m := unown_pure m hmt.1
  have e2 : unown t = t := unown_pure t hmt.2
  rw [K_fn P06.f70 _ _ rfl]
  (simp only [go_sem, simprocAttr, candle_book_burns, hmt, hu0, e1, e2]; repeat' (first | ((first | (refine br_yes (by omega) ?_) | (refine br_no (by omega) ?_) | (apply br_all; (· simp only [Bool.and_eq_true, decide_eq_true_eq]; omega)) | (apply br_free; (· simp [go_sem, Pm.acc, Acc.free, refsOf, offOf, keyEq, tagEq, cellsEq, cellEq]; done)) | ((first | apply br_mergeT | apply br_mergeF); (· intro h; simp only [go_sem, simprocAttr, sel_of h, candle_book_burns, hmt, hu0, e1, e2]; exact rfl))); (try simp only [go_sem, simprocAttr, candle_book_burns, hmt, hu0, e1, e2])) | ((first | apply onGuard_sel | (apply pickV_split; apply br_split) | apply br_split) <;> intro h <;> (try simp only [go_sem, simprocAttr, h, candle_book_burns, hmt, hu0, e1, e2]))))

/-! What comes. -/
def addOrder (l : List (Int × Int × Int)) (y : Order) : List (Int × Int × Int) := put2 l y.kind y.day (got2 l y.kind y.day + y.many)
def Book.comesN (b : Book) (i : Nat) : List (Int × Int × Int) := (b.orders.take i).foldl addOrder []
def Book.comes (b : Book) : List (Int × Int × Int) := b.orders.foldl addOrder []
theorem comesN_succ (b : Book) {i : Nat} {y : Order} (hy : b.orders[i]? = some y) : b.comesN (i + 1) = addOrder (b.comesN i) y := by
  simp only [Book.comesN, List.take_add_one, hy, Option.toList_some, List.foldl_append, List.foldl_cons, List.foldl_nil]
theorem comesN_all (b : Book) : b.comesN b.orders.length = b.comes := by simp [Book.comesN, Book.comes]
theorem valid_order {b : Book} (hv : b.sane = true) {i : Nat} {y : Order} (hy : b.orders[i]? = some y) : (0 ≤ y.day ∧ y.day ≤ b.days.length - 1) ∧ (0 ≤ y.kind ∧ y.kind ≤ 1) ∧ (0 ≤ y.many ∧ y.many ≤ 60) := by
  simp only [Book.sane, Bool.and_eq_true, List.all_eq_true] at hv
  have := hv.1.2 y (List.mem_of_getElem? hy)
  simp only [Book.orderOk, within, Bool.and_eq_true, decide_eq_true_eq] at this
  omega
theorem comesN_bound {b : Book} (hv : b.sane = true) : ∀ (i : Nat), i ≤ b.orders.length → ∀ a c, 0 ≤ got2 (b.comesN i) a c ∧ got2 (b.comesN i) a c ≤ 60 * i
  | 0, _, a, c => by simp [Book.comesN, got2]
  | i + 1, hi, a, c => by
    have hy : b.orders[i]? = some b.orders[i] := List.getElem?_eq_getElem (by omega)
    rw [comesN_succ b hy, addOrder, got2_put]
    have h1 := comesN_bound hv i (by omega) a c
    have h2 := comesN_bound hv i (by omega) b.orders[i].kind b.orders[i].day
    have h3 := valid_order hv hy
    split <;> omega

@[go_sem] theorem comes_L0 (hg : Γ.glob 1 = [ci (-1), ci (-1)]) (b : Book) [hb : b.Fits] (hv : b.sane = true) (z : Obj) (hz : ∀ n, z.under n = true) (v3 : V) (h3 : ∀ n, v3.under n = true) (h3' : v3.unown = v3) {β : Type} (Q : Ex → St → Option β) :
    E Γ candle_opened_L0 ⟨[(2, .sc (.eptr b.c 0)), (3, v3), (4, .sc (.ptr 2 0)), (5, .sc (.ptr 4 0)), (17, .sc (.sl b.ko 3 (b.orders.map Order.c))), (18, vi b.orders.length), (19, vi 0)], [.dead, .dead, z, .map true false [] none, .var (B13 b (.map 3) (.sl .nil 17 []))]⟩ Q =
     Q (.exit 0) ⟨[(2, .sc (.eptr b.c 0)), (3, v3), (4, .sc (.ptr 2 0)), (5, .sc (.ptr 4 0)), (17, .sc (.sl b.ko 3 (b.orders.map Order.c))), (18, vi b.orders.length), (19, vi b.orders.length), (20, vb false)], [.dead, .dead, z, .map true false (enc2 b.comes) none, .var (B13 b (.map 3) (.sl .nil 17 []))]⟩ := by
  refine E_countS b.orders.length (fun i (_ : Unit) => ⟨[(2, .sc (.eptr b.c 0)), (3, v3), (4, .sc (.ptr 2 0)), (5, .sc (.ptr 4 0)), (17, .sc (.sl b.ko 3 (b.orders.map Order.c))), (18, vi b.orders.length), (19, vi i)], [.dead, .dead, z, .map true false (enc2 (b.comesN i)) none, .var (B13 b (.map 3) (.sl .nil 17 []))]⟩) (fun _ _ => True)
    (fun _ => (.exit 0, ⟨[(2, .sc (.eptr b.c 0)), (3, v3), (4, .sc (.ptr 2 0)), (5, .sc (.ptr 4 0)), (17, .sc (.sl b.ko 3 (b.orders.map Order.c))), (18, vi b.orders.length), (19, vi b.orders.length), (20, vb false)], [.dead, .dead, z, .map true false (enc2 b.comes) none, .var (B13 b (.map 3) (.sl .nil 17 []))]⟩)) () rfl trivial ?_ ?_ ?_
  · intro i _ hi _
    obtain ⟨y, hy⟩ : ∃ y, b.orders[i]? = some y := ⟨_, List.getElem?_eq_getElem hi⟩
    have hvy := valid_order hv hy
    have hbd := comesN_bound hv i (by omega) y.kind y.day
    have hor := (valid_days hv).2.2.1
    have hiw : IntKind.i64.wrap ((i : Int) + 1) = i + 1 := wrap_i64 (by omega) (by omega)
    have hsw : IntKind.i64.wrap (got2 (b.comesN i) y.kind y.day + y.many) = got2 (b.comesN i) y.kind y.day + y.many := wrap_i64 (by omega) (by omega)
    have hk1 : decide (y.kind = -1) = false := decide_eq_false (by omega)
    have hlt : (i : Int) < b.orders.length := by omega
    refine ⟨(), trivial, ?_⟩
    rw [comesN_succ b hy, addOrder]
    cases hh : has2 (b.comesN i) y.kind y.day with
    | true =>
      (simp only [go_sem, simprocAttr, candle_opened_B0, hy, hg, hz, h3, h3', hiw, hsw, hh, hk1, keyEq2]; repeat' (first | ((first | (refine br_yes (by omega) ?_) | (refine br_no (by omega) ?_) | (apply br_all; (· simp only [Bool.and_eq_true, decide_eq_true_eq]; omega)) | (apply br_free; (· simp [go_sem, Pm.acc, Acc.free, refsOf, offOf, keyEq, tagEq, cellsEq, cellEq]; done)) | ((first | apply br_mergeT | apply br_mergeF); (· intro h; simp only [go_sem, simprocAttr, sel_of h, candle_opened_B0, hy, hg, hz, h3, h3', hiw, hsw, hh, hk1, keyEq2]; exact rfl))); (try simp only [go_sem, simprocAttr, candle_opened_B0, hy, hg, hz, h3, h3', hiw, hsw, hh, hk1, keyEq2])) | ((first | apply onGuard_sel | (apply pickV_split; apply br_split) | apply br_split) <;> intro h <;> (try simp only [go_sem, simprocAttr, h, candle_opened_B0, hy, hg, hz, h3, h3', hiw, hsw, hh, hk1, keyEq2]))))
      rfl
    | false =>
      (simp only [go_sem, simprocAttr, candle_opened_B0, hy, hg, hz, h3, h3', hiw, hsw, hh, hk1, keyEq2]; repeat' (first | ((first | (refine br_yes (by omega) ?_) | (refine br_no (by omega) ?_) | (apply br_all; (· simp only [Bool.and_eq_true, decide_eq_true_eq]; omega)) | (apply br_free; (· simp [go_sem, Pm.acc, Acc.free, refsOf, offOf, keyEq, tagEq, cellsEq, cellEq]; done)) | ((first | apply br_mergeT | apply br_mergeF); (· intro h; simp only [go_sem, simprocAttr, sel_of h, candle_opened_B0, hy, hg, hz, h3, h3', hiw, hsw, hh, hk1, keyEq2]; exact rfl))); (try simp only [go_sem, simprocAttr, candle_opened_B0, hy, hg, hz, h3, h3', hiw, hsw, hh, hk1, keyEq2])) | ((first | apply onGuard_sel | (apply pickV_split; apply br_split) | apply br_split) <;> intro h <;> (try simp only [go_sem, simprocAttr, h, candle_opened_B0, hy, hg, hz, h3, h3', hiw, hsw, hh, hk1, keyEq2]))))
      rfl
  · intro _ _
    rw [comesN_all]
    (simp only [go_sem, simprocAttr, candle_opened_B0]; repeat' (first | ((first | (refine br_yes (by omega) ?_) | (refine br_no (by omega) ?_) | (apply br_all; (· simp only [Bool.and_eq_true, decide_eq_true_eq]; omega)) | (apply br_free; (· simp [go_sem, Pm.acc, Acc.free, refsOf, offOf, keyEq, tagEq, cellsEq, cellEq]; done)) | ((first | apply br_mergeT | apply br_mergeF); (· intro h; simp only [go_sem, simprocAttr, sel_of h, candle_opened_B0]; exact rfl))); (try simp only [go_sem, simprocAttr, candle_opened_B0])) | ((first | apply onGuard_sel | (apply pickV_split; apply br_split) | apply br_split) <;> intro h <;> (try simp only [go_sem, simprocAttr, h, candle_opened_B0]))))
  · intro _ _
    rfl

def Z13 : List C := [ci 0, ci 0, ci 0, ci 0, ci 0, ci 0, ci 0, ci 0, .sl .nil 5 [], .sl .nil 3 [], .sl .nil 4 [], .imap true false [], .sl .nil 17 []]

def T0 (f0 f1 : Int) : List Int := [0, 0, 0, 0, 0, f0, f1, 0, 0, 0, 0, 0, 0, 0, 0, 0, 0]

def Book.addAll (b : Book) (but : List Int) (ts : List (List Int)) (n0 n1 f0 f1 : Int) : List (List Int) := ts ++ b.live b.comes but b.days.length (T0 f0 f1) n0 n1 0
def Book.truths (b : Book) (but : List Int) : List (List Int) := all4 b (b.addAll but) []

theorem E_A1 {β : Type} (s : St) (Q : Ex → St → Option β) : E Γ candle_opened_A1 s Q = E Γ ((.seq (.region 1 [
    ⟨0, some 11, .alloc 0 [.int .i64 0, .int .i64 0], none, []⟩,
    ⟨1, none, .store 2 (.t 11) (.t 46), none, []⟩] false [10, 11, 47])
  (.region 1 [
    ⟨0, some 12, .alloc 0 [.int .i64 0, .int .i64 0], none, []⟩,
    ⟨1, none, .store 2 (.t 12) (.t 47), none, []⟩] false [10, 11, 12]))) s Q := rfl
theorem E_B1 {β : Type} (s : St) (Q : Ex → St → Option β) : E Γ candle_opened_B1 s Q = E Γ ((.block 3 (.region 0 [
    ⟨0, some 48, .load none (.t 10), none, []⟩,
    ⟨1, some 49, .load (some 2) (.t 12), none, []⟩,
    ⟨2, some 50, .build [.int .i64 0, .int .i64 0, .int .i64 0, .int .i64 0, .int .i64 0, .int .i64 0, .int .i64 0, .int .i64 0, .int .i64 0, .int .i64 0, .int .i64 0, .int .i64 0, .int .i64 0, .int .i64 0, .int .i64 0, .int .i64 0, .int .i64 0] [(5, 2, .t 49)], none, []⟩,
    ⟨3, some 51, .load (some 2) (.t 11), none, []⟩,
    ⟨4, some 52, .call false (.t 48) [.t 50, .t 51, .k (.sc (.int .i64 0))], none, []⟩] false []))) s Q := rfl

theorem yield_k (b : Book) [hb : b.Fits] (hv : b.sane = true) (k : SK) (but : List Int) (hl : but.length ≤ 1000000) (H : List Obj) (M : Nat) (ts : List (List Int)) (T : List (Nat × V)) (v45 : V) (hT : T = [(4, .sc (.ptr 2 0)), (5, .sc (.ptr 4 0)), (10, .sc (.ptr 6 0)), (45, v45)]) (h45 : ∀ n, v45.under n = true)
    (hn : H.length = M) (h8 : 8 ≤ M) (h4 : H[4]? = some (.var (B13 b (.imap true false (enc2 b.comes)) (truthsC ts)))) (h6 : H[6]? = some (.var [liveC b (.imap true false (enc2 b.comes)) k but 4 6]))
    (h7 : H[7]? = some (.loop .ready none T [46, 47] candle_opened_A1 candle_opened_B1)) (hu : H.all (Obj.under M) = true) (hr : ts.length + 243 ≤ room)
    (n0 n1 f0 f1 : Int) (hn0 : 0 ≤ n0 ∧ n0 ≤ 60) (hn1 : 0 ≤ n1 ∧ n1 ≤ 60) (hf0 : 1 ≤ f0 ∧ f0 ≤ 6) (hf1 : 1 ≤ f1 ∧ f1 ≤ 6) :
    K Γ (.yield 7) [.agg [ci n0, ci n1], .agg [ci f0, ci f1]] H = some (vb true, H.set 4 (.var (B13 b (.imap true false (enc2 b.comes)) (truthsC (b.addAll but ts n0 n1 f0 f1))))) := by
  subst hT
  have hpl : 4 < H.length := by omega
  have hql : 6 < H.length := by omega
  have hll : 7 < H.length := by omega
  rw [K_yield]
  have hp4 : 4 < M := by omega
  have hp6 : 6 < M := by omega
  have hp7 : 7 < M := by omega
  obtain ⟨bz, hbz⟩ : ∃ x, Obj.loop .busy none [(4, .sc (.ptr 2 0)), (5, .sc (.ptr 4 0)), (10, .sc (.ptr 6 0)), (45, v45)] [46, 47] candle_opened_A1 candle_opened_B1 = x := ⟨_, rfl⟩
  have hbu (n : Nat) : Obj.under (n + 8) bz = true := by subst hbz; simp [Obj.under, go_sem, h45]
  have hob {β : Type} (f : List (Nat × V) → List Nat → AC → AC → Option β) : onBusy (some bz) f = f [(4, .sc (.ptr 2 0)), (5, .sc (.ptr 4 0)), (10, .sc (.ptr 6 0)), (45, v45)] [46, 47] candle_opened_A1 candle_opened_B1 := by subst hbz; rfl
  have hvd := valid_days hv
  have hcb : ∀ a c, 0 ≤ got2 b.comes a c ∧ got2 b.comes a c ≤ 240 := fun a c => by
    have := comesN_bound hv b.orders.length (Nat.le_refl _) a c
    rw [comesN_all] at this; omega
  have h3 : 3 ^ b.days.length ≤ 243 := by
    have : b.days.length = 1 ∨ b.days.length = 2 ∨ b.days.length = 3 ∨ b.days.length = 4 ∨ b.days.length = 5 := by omega
    rcases this with e | e | e | e | e <;> rw [e] <;> decide
  have hLv := live_k (Γ := Γ) b hv b.comes hcb k but hl b.days.length 0 (T0 f0 f1) n0 n1 (H.set 7 bz ++ [.var [ci n0, ci n1], .var [ci f0, ci f1]]) (M + 2) 4 6 ts (by omega) rfl hf0 hf1 (by simp; omega) (by simp; omega) (by omega)
    (by simp [hn]) (by omega) (by omega) (by decide) (by rw [hget_lt _ _ _ (by simpa using hpl), hget_set_ne _ _ _ _ (by decide), h4]) (by rw [hget_lt _ _ _ (by simpa using hql), hget_set_ne _ _ _ _ (by decide), h6])
    (by rw [List.all_append, hall_mono _ M 2 (hall_set _ _ _ _ hu (by rw [show M = (M - 8) + 8 by omega]; exact hbu _))]; simp [go_sem])
  replace hLv : K Γ (.fn 69) [.agg [ci 0, ci 0, ci 0, ci 0, ci 0, ci f0, ci f1, ci 0, ci 0, ci 0, ci 0, ci 0, ci 0, ci 0, ci 0, ci 0, ci 0], .agg [ci n0, ci n1], vi 0, .sc (.eptr b.c 0), .sc (.ptr 4 0), .sc (.eptr [rightC b (.imap true false (enc2 b.comes))] 0), .sc (.eptr [.sl k 1 (but.map fun x => [ci x])] 0), .sc (.ptr 6 0)] _ = _ := hLv
  have h67 : (H.set 7 bz)[6]? = some (.var [liveC b (.imap true false (enc2 b.comes)) k but 4 6]) := by rw [hget_set_ne _ _ _ _ (by decide), h6]
  have hb7 (v : Obj) : ((H.set 7 bz).set 4 v)[7]? = some bz := by rw [hget_set_ne _ _ _ _ (by decide), hget_set _ _ _ hll]
  have hsb (v : Obj) := set_back H 7 4 bz v _ (by decide) h7
  have hua (ts' : List (List Int)) : (H.set 4 (.var (B13 b (.imap true false (enc2 b.comes)) (truthsC ts')))).all (Obj.under M) = true := hall_set _ _ _ _ hu (by simp [go_sem])
  (simp only [go_sem, simprocAttr, h7, E_A1, E_B1, hbz, hob, hn, heapB, hpl, hql, hll, hp4, hp6, hp7, hLv, h67, hb7, hsb, hua]; repeat' (first | ((first | (refine br_yes (by omega) ?_) | (refine br_no (by omega) ?_) | (apply br_all; (· simp only [Bool.and_eq_true, decide_eq_true_eq]; omega)) | (apply br_free; (· simp [go_sem, Pm.acc, Acc.free, refsOf, offOf, keyEq, tagEq, cellsEq, cellEq]; done)) | ((first | apply br_mergeT | apply br_mergeF); (· intro h; simp only [go_sem, simprocAttr, sel_of h, h7, E_A1, E_B1, hbz, hob, hn, heapB, hpl, hql, hll, hp4, hp6, hp7, hLv, h67, hb7, hsb, hua]; exact rfl))); (try simp only [go_sem, simprocAttr, h7, E_A1, E_B1, hbz, hob, hn, heapB, hpl, hql, hll, hp4, hp6, hp7, hLv, h67, hb7, hsb, hua])) | ((first | apply onGuard_sel | (apply pickV_split; apply br_split) | apply br_split) <;> intro h <;> (try simp only [go_sem, simprocAttr, h, h7, E_A1, E_B1, hbz, hob, hn, heapB, hpl, hql, hll, hp4, hp6, hp7, hLv, h67, hb7, hsb, hua]))))
  rfl

theorem frzc_B13 (t : List (Nat × V)) (ht : get t 5 = .sc (.ptr 4 0)) (x0 x1 x2 : Obj) (ka va : Bool) (l : List (List C × List C)) (b : Book) :
    frozenC 5 ⟨t, [x0, x1, x2, .map ka va l none, .var (B13 b (.map 3) (.sl .nil 17 []))]⟩ = some ⟨t, [x0, x1, x2, .dead, .var (B13 b (.imap ka va l) (.sl .nil 17 []))]⟩ := by
  unfold frozenC
  rw [ht]
  rfl

def keptT (b : Book) : List (Nat × V) := [(4, .sc (.ptr 2 0)), (5, .sc (.ptr 4 0)), (10, .sc (.ptr 6 0)), (45, .sc (.fn (.fn 80) [] [] [.eptr (B13 b (.imap true false (enc2 b.comes)) (.sl .nil 17 [])) 0]))]
def heapT (b : Book) (k : SK) (but : List Int) (ts : List (List Int)) : List Obj :=
  [.dead, .dead, .var Z13, .dead, .var (B13 b (.imap true false (enc2 b.comes)) (truthsC ts)), .dead, .var [liveC b (.imap true false (enc2 b.comes)) k but 4 6], .loop .ready none (keptT b) [46, 47] candle_opened_A1 candle_opened_B1]

theorem live_len (b : Book) (hv : b.sane = true) (l : List (Int × Int × Int)) (but : List Int) (t : List Int) (n0 n1 : Int) (day : Nat) : (b.live l but b.days.length t n0 n1 day).length ≤ 243 := by
  have hvd := valid_days hv
  refine Nat.le_trans (live_length hv l but _ _ _ _ _) ?_
  have : b.days.length = 1 ∨ b.days.length = 2 ∨ b.days.length = 3 ∨ b.days.length = 4 ∨ b.days.length = 5 := by omega
  rcases this with e | e | e | e | e <;> rw [e] <;> decide

theorem rounds_k (b : Book) [hb : b.Fits] (hv : b.sane = true) (k : SK) (but : List Int) (hl : but.length ≤ 1000000) :
    K Γ (.fn 80) [.sc (.fn (.yield 7) [] [] []), .sc (.eptr (B13 b (.imap true false (enc2 b.comes)) (.sl .nil 17 [])) 0)] (heapT b k but []) = some (.tup [], heapT b k but (b.truths but)) := by
  have hvs : (b.s0.is 0 60 2 = true ∧ b.f0.is 1 6 1 = true) ∧ b.s1.is 0 60 2 = true ∧ b.f1.is 1 6 1 = true := by
    simp only [Book.sane, Bool.and_eq_true] at hv
    exact ⟨⟨hv.1.1.1.1.1.1.2, hv.1.1.1.1.1.2⟩, hv.1.1.1.1.2, hv.1.1.1.2⟩
  have hvs' := hvs
  simp only [Span.is, Bool.and_eq_true, decide_eq_true_eq] at hvs'
  refine (burns1_k b (.imap true false (enc2 b.comes)) (.sl .nil 17 []) rfl hvs.1.1 hvs.1.2 hvs.2.1 hvs.2.2 (fun r ts => ts.length + 243 * r ≤ room) (b.addAll but) (heapT b k but) 8 7 (by omega) (fun _ => rfl) (fun ts => ?_) (fun r ts h => by omega) (fun r ts fr n0 n1 f0 f1 hI hfr h0 h1 h2 h3 => ⟨?_, ?_⟩) 0 [] (by decide)).2
  · simp [heapT, keptT, Z13, go_sem]
  · have := live_len b hv b.comes but (T0 f0 f1) n0 n1 0
    simp only [Book.addAll, List.length_append]
    omega
  · exact yield_k b hv k but hl (heapT b k but ts ++ fr) (8 + fr.length) ts (keptT b) _ rfl (fun n => by simp [go_sem]) (by simp [heapT]; omega) (by omega) rfl rfl rfl
      (by rw [List.all_append, hall_mono _ 8 _ (by simp [heapT, keptT, Z13, go_sem]), hfr]; rfl) (by omega) n0 n1 f0 f1 (by omega) (by omega) (by omega) (by omega)

theorem B13_frz (b' : Nat) (h : List Obj) (ka va : Bool) (l : List (List C × List C)) (es : Nat) (L : List (List C)) (b : Book) : frzL b' h 128 (B13 b (.imap ka va l) (unown (ownC es L))) = some (B13 b (.imap ka va l) (unown (ownC es L))) := by
  simp only [B13, go_sem]

theorem opened_k (hg : Γ.glob 1 = [ci (-1), ci (-1)]) (b : Book) [hb : b.Fits] (hv : b.sane = true) (k : SK) (but : List Int) (hl : but.length ≤ 1000000) :
    K Γ (.fn 42) [.agg b.c, .sc (.sl k 1 (but.map fun x => [ci x]))] [] = some (.agg (B13 b (.imap true false (enc2 b.comes)) (unown (truthsC (b.truths but)))), []) := by
  have hL {β : Type} (Q : Ex → St → Option β) := comes_L0 hg b hv (.var Z13) (fun n => by simp [Z13, go_sem]) (.sc (.eptr [.sl k 1 (but.map fun x => [ci x])] 0)) (fun n => by simp [go_sem]) rfl Q
  have hR := rounds_k (Γ := Γ) b hv k but hl
  simp only [Z13, heapT, keptT] at hL hR
  rw [show truthsC [] = C.sl .nil 17 [] from rfl] at hR
  rw [K_fn P06.f42 _ _ rfl]
  (simp only [go_sem, simprocAttr, candle_opened, hL, frzc_B13, hR, B13_frz]; repeat' (first | ((first | (refine br_yes (by omega) ?_) | (refine br_no (by omega) ?_) | (apply br_all; (· simp only [Bool.and_eq_true, decide_eq_true_eq]; omega)) | (apply br_free; (· simp [go_sem, Pm.acc, Acc.free, refsOf, offOf, keyEq, tagEq, cellsEq, cellEq]; done)) | ((first | apply br_mergeT | apply br_mergeF); (· intro h; simp only [go_sem, simprocAttr, sel_of h, candle_opened, hL, frzc_B13, hR, B13_frz]; exact rfl))); (try simp only [go_sem, simprocAttr, candle_opened, hL, frzc_B13, hR, B13_frz])) | ((first | apply onGuard_sel | (apply pickV_split; apply br_split) | apply br_split) <;> intro h <;> (try simp only [go_sem, simprocAttr, h, candle_opened, hL, frzc_B13, hR, B13_frz]))))
end
end Go.Pm.Cd

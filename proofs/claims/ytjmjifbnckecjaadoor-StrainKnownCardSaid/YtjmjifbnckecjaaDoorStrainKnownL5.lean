/- The statement StrainKnown, part 5. -/
import Derived.Test.YtjmjifbnckecjaaDoorW1
set_option linter.all false
set_option maxRecDepth 100000
namespace Go.Pm.Ac
open Go.Pm
def d7j : AC :=
 (.seq (.seq (.region 0 [
 ⟨0, some 150, .mv (.t 2), none, []⟩,
 ⟨1, some 151, .mv (.t 1), none, []⟩,
 ⟨2, some 152, .len 1 (.t 151), none, []⟩,
 ⟨3, some 153, .bin .lss (.t 150) (.t 152), none, []⟩] false [1, 2, 153])
 (.cond (.t 153)
 (.skip)
 (.exit 0)))
 (.seq (.block 1 (.seq (.region 0 [
 ⟨0, some 157, .mv (.t 1), none, []⟩,
 ⟨1, some 158, .mv (.t 2), none, []⟩,
 ⟨2, some 159, .iaddr 10 (.t 157) (.t 158), none, []⟩,
 ⟨3, some 160, .load (some 10) (.t 159), none, []⟩,
 ⟨4, some 161, .call true (.f 209) [.t 160], none, []⟩,
 ⟨5, some 156, .mv (.t 161), none, []⟩,
 ⟨6, some 162, .ext (.t 156) 0, none, []⟩,
 ⟨7, some 163, .ext (.t 156) 1, none, []⟩,
 ⟨8, some 3, .mv (.t 162), none, []⟩,
 ⟨9, some 4, .mv (.t 163), none, []⟩] false [1, 2, 4])
 (.seq (.region 1 [
 ⟨0, some 165, .mv (.t 1), none, []⟩,
 ⟨1, some 166, .mv (.t 2), none, []⟩,
 ⟨2, some 167, .iaddr 10 (.t 165) (.t 166), none, []⟩,
 ⟨3, some 168, .load (some 10) (.t 167), none, []⟩,
 ⟨4, some 169, .call true (.f 135) [.t 168, .k (.sc (.int .i64 (-1))), .k (.sc (.int .i64 0))], none, []⟩,
 ⟨5, some 164, .mv (.t 169), none, []⟩,
 ⟨6, some 170, .ext (.t 164) 0, none, []⟩,
 ⟨7, some 171, .ext (.t 164) 1, none, []⟩,
 ⟨8, some 5, .alloc 0 [.int .i64 0, .int .i64 0], none, []⟩,
 ⟨9, none, .store 2 (.t 5) (.t 170), none, []⟩,
 ⟨10, some 6, .mv (.t 171), none, []⟩] false [1, 2, 4, 6])
 (.seq (.region 1 [
 ⟨0, some 173, .mv (.t 1), none, []⟩,
 ⟨1, some 174, .mv (.t 2), none, []⟩,
 ⟨2, some 175, .iaddr 10 (.t 173) (.t 174), none, []⟩,
 ⟨3, some 176, .load (some 10) (.t 175), none, []⟩,
 ⟨4, some 177, .call true (.f 137) [.t 176, .k (.sc (.int .i64 (-1)))], none, []⟩,
 ⟨5, some 172, .mv (.t 177), none, []⟩,
 ⟨6, some 178, .ext (.t 172) 0, none, []⟩,
 ⟨7, some 179, .ext (.t 172) 1, none, []⟩,
 ⟨8, some 7, .alloc 0 [.int .i64 0, .int .i64 0], none, []⟩,
 ⟨9, none, .store 2 (.t 7) (.t 178), none, []⟩,
 ⟨10, some 8, .mv (.t 179), none, []⟩] false [1, 2, 4, 6, 8])
 (.seq (.region 0 [
 ⟨0, some 181, .mv (.t 1), none, []⟩,
 ⟨1, some 182, .mv (.t 2), none, []⟩,
 ⟨2, some 183, .iaddr 10 (.t 181) (.t 182), none, []⟩,
 ⟨3, some 184, .load (some 10) (.t 183), none, []⟩,
 ⟨4, some 185, .call true (.f 138) [.t 184, .k (.sc (.int .i64 (-1)))], none, []⟩,
 ⟨5, some 180, .mv (.t 185), none, []⟩,
 ⟨6, some 186, .ext (.t 180) 0, none, []⟩,
 ⟨7, some 187, .ext (.t 180) 1, none, []⟩,
 ⟨8, some 9, .mv (.t 186), none, []⟩,
 ⟨9, some 10, .mv (.t 187), none, []⟩] false [1, 2, 4, 6, 8, 10])
 (.seq (.region 0 [
 ⟨0, some 189, .mv (.t 1), none, []⟩,
 ⟨1, some 190, .mv (.t 2), none, []⟩,
 ⟨2, some 191, .iaddr 10 (.t 189) (.t 190), none, []⟩,
 ⟨3, some 192, .load (some 10) (.t 191), none, []⟩,
 ⟨4, some 193, .call true (.f 101) [.t 192], none, []⟩,
 ⟨5, some 188, .mv (.t 193), none, []⟩,
 ⟨6, some 194, .ext (.t 188) 0, none, []⟩,
 ⟨7, some 195, .ext (.t 188) 1, none, []⟩,
 ⟨8, some 196, .ext (.t 188) 2, none, []⟩,
 ⟨9, some 11, .mv (.t 194), none, []⟩,
 ⟨10, some 12, .mv (.t 195), none, []⟩,
 ⟨11, some 13, .mv (.t 196), none, []⟩] false [1, 2, 4, 6, 8, 10, 13])
 (.seq (.region 0 [
 ⟨0, some 198, .mv (.t 1), none, []⟩,
 ⟨1, some 199, .mv (.t 2), none, []⟩,
 ⟨2, some 200, .iaddr 10 (.t 198) (.t 199), none, []⟩,
 ⟨3, some 201, .load (some 10) (.t 200), none, []⟩,
 ⟨4, some 202, .call true (.f 103) [.t 201, .k (.sc (.sl .nil 2 []))], none, []⟩,
 ⟨5, some 197, .mv (.t 202), none, []⟩,
 ⟨6, some 203, .ext (.t 197) 0, none, []⟩,
 ⟨7, some 204, .ext (.t 197) 1, none, []⟩,
 ⟨8, some 14, .mv (.t 203), none, []⟩,
 ⟨9, some 15, .mv (.t 204), none, []⟩] false [1, 2, 4, 6, 8, 10, 13, 15])
 (.seq (.region 0 [
 ⟨0, some 206, .mv (.t 1), none, []⟩,
 ⟨1, some 207, .mv (.t 2), none, []⟩,
 ⟨2, some 208, .iaddr 10 (.t 206) (.t 207), none, []⟩,
 ⟨3, some 209, .load (some 10) (.t 208), none, []⟩,
 ⟨4, some 210, .bslice 1 2 [.int .i64 0] [(0, .k (.sc (.int .i64 (-1)))), (1, .k (.sc (.int .i64 0)))], none, []⟩,
 ⟨5, some 211, .call true (.f 139) [.t 210], none, []⟩,
 ⟨6, some 212, .call true (.f 105) [.t 209, .t 211], none, []⟩,
 ⟨7, some 205, .mv (.t 212), none, []⟩,
 ⟨8, some 213, .ext (.t 205) 0, none, []⟩,
 ⟨9, some 214, .ext (.t 205) 1, none, []⟩,
 ⟨10, some 16, .mv (.t 213), none, []⟩,
 ⟨11, some 17, .mv (.t 214), none, []⟩] true [1, 2, 4, 6, 8, 10, 13, 15, 17])
 (.seq (.region 0 [
 ⟨0, some 216, .mv (.t 1), none, []⟩,
 ⟨1, some 217, .mv (.t 2), none, []⟩,
 ⟨2, some 218, .iaddr 10 (.t 216) (.t 217), none, []⟩,
 ⟨3, some 219, .load (some 10) (.t 218), none, []⟩,
 ⟨4, some 220, .call true (.f 107) [.t 219], none, []⟩,
 ⟨5, some 215, .mv (.t 220), none, []⟩,
 ⟨6, some 221, .ext (.t 215) 0, none, []⟩,
 ⟨7, some 222, .ext (.t 215) 1, none, []⟩,
 ⟨8, some 18, .mv (.t 221), none, []⟩,
 ⟨9, some 19, .mv (.t 222), none, []⟩] false [1, 2, 4, 6, 8, 10, 13, 15, 17, 19])
 (.seq (.region 0 [
 ⟨0, some 224, .mv (.t 1), none, []⟩,
 ⟨1, some 225, .mv (.t 2), none, []⟩,
 ⟨2, some 226, .iaddr 10 (.t 224) (.t 225), none, []⟩,
 ⟨3, some 227, .load (some 10) (.t 226), none, []⟩,
 ⟨4, some 228, .build [.int .i64 0, .int .i64 0, .int .i64 0, .int .i64 0] [(0, 1, .k (.sc (.int .i64 (-1))))], none, []⟩,
 ⟨5, some 229, .call true (.f 141) [.t 227, .t 228], none, []⟩,
 ⟨6, some 223, .mv (.t 229), none, []⟩,
 ⟨7, some 230, .ext (.t 223) 0, none, []⟩,
 ⟨8, some 231, .ext (.t 223) 1, none, []⟩,
 ⟨9, some 20, .mv (.t 230), none, []⟩,
 ⟨10, some 21, .mv (.t 231), none, []⟩] false [1, 2, 4, 6, 8, 10, 13, 15, 17, 19, 21])
 (.seq (.region 0 [
 ⟨0, some 233, .mv (.t 1), none, []⟩,
 ⟨1, some 234, .mv (.t 2), none, []⟩,
 ⟨2, some 235, .iaddr 10 (.t 233) (.t 234), none, []⟩,
 ⟨3, some 236, .load (some 10) (.t 235), none, []⟩,
 ⟨4, some 237, .call true (.f 143) [.t 236], none, []⟩,
 ⟨5, some 232, .mv (.t 237), none, []⟩,
 ⟨6, some 238, .ext (.t 232) 0, none, []⟩,
 ⟨7, some 239, .ext (.t 232) 1, none, []⟩,
 ⟨8, some 22, .mv (.t 238), none, []⟩,
 ⟨9, some 23, .mv (.t 239), none, []⟩] false [1, 2, 4, 6, 8, 10, 13, 15, 17, 19, 21, 23])
 (.seq (.region 0 [
 ⟨0, some 240, .mv (.t 1), none, []⟩,
 ⟨1, some 241, .mv (.t 2), none, []⟩,
 ⟨2, some 242, .iaddr 10 (.t 240) (.t 241), none, []⟩,
 ⟨3, some 243, .load (some 10) (.t 242), none, []⟩,
 ⟨4, some 244, .call true (.f 117) [.t 243], none, []⟩,
 ⟨5, some 245, .bin .neq (.t 244) (.k (.sc (.int .i64 40))), none, []⟩,
 ⟨6, some 246, .mv (.t 245), none, []⟩,
 ⟨7, some 247, .mv (.t 4), some (246, false), []⟩,
 ⟨8, some 248, .bin .neq (.t 247) (.k (.sc (.int .i64 40))), some (246, false), []⟩,
 ⟨9, some 249, .pick (.t 246) (.k (.sc (.bool true))) (.t 248), none, []⟩,
 ⟨10, some 250, .mv (.t 249), none, []⟩,
 ⟨11, some 251, .mv (.t 6), some (250, false), []⟩,
 ⟨12, some 252, .bin .neq (.t 251) (.k (.sc (.int .i64 40))), some (250, false), []⟩,
 ⟨13, some 253, .pick (.t 250) (.k (.sc (.bool true))) (.t 252), none, []⟩,
 ⟨14, some 254, .mv (.t 253), none, []⟩,
 ⟨15, some 255, .mv (.t 8), some (254, false), []⟩,
 ⟨16, some 256, .bin .neq (.t 255) (.k (.sc (.int .i64 40))), some (254, false), []⟩,
 ⟨17, some 257, .pick (.t 254) (.k (.sc (.bool true))) (.t 256), none, []⟩,
 ⟨18, some 258, .mv (.t 257), none, []⟩,
 ⟨19, some 259, .mv (.t 10), some (258, false), []⟩,
 ⟨20, some 260, .bin .neq (.t 259) (.k (.sc (.int .i64 40))), some (258, false), []⟩,
 ⟨21, some 261, .pick (.t 258) (.k (.sc (.bool true))) (.t 260), none, []⟩,
 ⟨22, some 262, .mv (.t 261), none, []⟩,
 ⟨23, some 263, .mv (.t 13), some (262, false), []⟩,
 ⟨24, some 264, .bin .neq (.t 263) (.k (.sc (.int .i64 40))), some (262, false), []⟩,
 ⟨25, some 265, .pick (.t 262) (.k (.sc (.bool true))) (.t 264), none, []⟩,
 ⟨26, some 266, .mv (.t 265), none, []⟩,
 ⟨27, some 267, .mv (.t 15), some (266, false), []⟩,
 ⟨28, some 268, .bin .neq (.t 267) (.k (.sc (.int .i64 40))), some (266, false), []⟩,
 ⟨29, some 269, .pick (.t 266) (.k (.sc (.bool true))) (.t 268), none, []⟩,
 ⟨30, some 270, .mv (.t 269), none, []⟩,
 ⟨31, some 271, .mv (.t 17), some (270, false), []⟩,
 ⟨32, some 272, .bin .neq (.t 271) (.k (.sc (.int .i64 40))), some (270, false), []⟩,
 ⟨33, some 273, .pick (.t 270) (.k (.sc (.bool true))) (.t 272), none, []⟩,
 ⟨34, some 274, .mv (.t 273), none, []⟩,
 ⟨35, some 275, .mv (.t 19), some (274, false), []⟩,
 ⟨36, some 276, .bin .neq (.t 275) (.k (.sc (.int .i64 40))), some (274, false), []⟩,
 ⟨37, some 277, .pick (.t 274) (.k (.sc (.bool true))) (.t 276), none, []⟩,
 ⟨38, some 278, .mv (.t 277), none, []⟩,
 ⟨39, some 279, .mv (.t 21), some (278, false), []⟩,
 ⟨40, some 280, .bin .neq (.t 279) (.k (.sc (.int .i64 40))), some (278, false), []⟩,
 ⟨41, some 281, .pick (.t 278) (.k (.sc (.bool true))) (.t 280), none, []⟩,
 ⟨42, some 282, .mv (.t 281), none, []⟩,
 ⟨43, some 283, .mv (.t 23), some (282, false), []⟩,
 ⟨44, some 284, .bin .neq (.t 283) (.k (.sc (.int .i64 40))), some (282, false), []⟩,
 ⟨45, some 285, .pick (.t 282) (.k (.sc (.bool true))) (.t 284), none, []⟩] false [1, 2, 285])
 (.cond (.t 285)
 (.seq (.region 0 [
 ⟨0, some 0, .mv (.k (.sc (.bool false))), none, []⟩] false [0])
 (.ret))
 (.skip))))))))))))))
 (.region 0 [
 ⟨0, some 154, .mv (.t 2), none, []⟩,
 ⟨1, some 155, .bin .add (.t 154) (.k (.sc (.int .i64 1))), none, []⟩,
 ⟨2, some 2, .mv (.t 155), none, []⟩] false [1, 2])))
def d7r : AC := .loop [1, 2] d7j
def d7k : AC :=
 (.seq (.seq (.region 0 [
 ⟨0, some 293, .mv (.t 25), none, []⟩,
 ⟨1, some 294, .mv (.t 24), none, []⟩,
 ⟨2, some 295, .len 1 (.t 294), none, []⟩,
 ⟨3, some 296, .bin .lss (.t 293) (.t 295), none, []⟩] false [24, 25, 296])
 (.cond (.t 296)
 (.skip)
 (.exit 2)))
 (.seq (.block 3 (.seq (.region 0 [
 ⟨0, some 300, .call true (.f 134) [], none, []⟩,
 ⟨1, some 301, .mv (.t 24), none, []⟩,
 ⟨2, some 302, .mv (.t 25), none, []⟩,
 ⟨3, some 303, .iaddr 1 (.t 301) (.t 302), none, []⟩,
 ⟨4, some 304, .load none (.t 303), none, []⟩,
 ⟨5, some 305, .call true (.f 139) [.t 304], none, []⟩,
 ⟨6, some 306, .call true (.f 103) [.t 300, .t 305], none, []⟩,
 ⟨7, some 299, .mv (.t 306), none, []⟩,
 ⟨8, some 307, .ext (.t 299) 0, none, []⟩,
 ⟨9, some 308, .ext (.t 299) 1, none, []⟩,
 ⟨10, some 26, .mv (.t 307), none, []⟩,
 ⟨11, some 27, .mv (.t 308), none, []⟩] true [24, 25, 26, 27])
 (.seq (.region 0 [
 ⟨0, some 310, .call true (.f 134) [], none, []⟩,
 ⟨1, some 311, .mv (.t 24), none, []⟩,
 ⟨2, some 312, .mv (.t 25), none, []⟩,
 ⟨3, some 313, .iaddr 1 (.t 311) (.t 312), none, []⟩,
 ⟨4, some 314, .load none (.t 313), none, []⟩,
 ⟨5, some 315, .call true (.f 139) [.t 314], none, []⟩,
 ⟨6, some 316, .call true (.f 105) [.t 310, .t 315], none, []⟩,
 ⟨7, some 309, .mv (.t 316), none, []⟩,
 ⟨8, some 317, .ext (.t 309) 0, none, []⟩,
 ⟨9, some 318, .ext (.t 309) 1, none, []⟩,
 ⟨10, some 28, .mv (.t 317), none, []⟩,
 ⟨11, some 29, .mv (.t 318), none, []⟩] true [24, 25, 26, 27, 29])
 (.seq (.region 0 [
 ⟨0, some 319, .mv (.t 27), none, []⟩,
 ⟨1, some 320, .bin .neq (.t 319) (.k (.sc (.int .i64 0))), none, []⟩,
 ⟨2, some 321, .mv (.t 320), none, []⟩,
 ⟨3, some 322, .mv (.t 26), some (321, false), []⟩,
 ⟨4, some 323, .pick (.t 321) (.k (.sc (.bool true))) (.t 322), none, []⟩,
 ⟨5, some 324, .mv (.t 323), none, []⟩,
 ⟨6, some 325, .mv (.t 29), some (324, false), []⟩,
 ⟨7, some 326, .bin .neq (.t 325) (.k (.sc (.int .i64 41))), some (324, false), []⟩,
 ⟨8, some 327, .pick (.t 324) (.k (.sc (.bool true))) (.t 326), none, []⟩] false [24, 25, 327])
 (.cond (.t 327)
 (.seq (.region 0 [
 ⟨0, some 0, .mv (.k (.sc (.bool false))), none, []⟩] false [0])
 (.ret))
 (.skip))))))
 (.region 0 [
 ⟨0, some 297, .mv (.t 25), none, []⟩,
 ⟨1, some 298, .bin .add (.t 297) (.k (.sc (.int .i64 1))), none, []⟩,
 ⟨2, some 25, .mv (.t 298), none, []⟩] false [24, 25])))
def d7m : AC := .loop [24, 25] d7k
def d7l : AC :=
 (.seq (.seq (.region 0 [
 ⟨0, some 428, .mv (.t 52), none, []⟩,
 ⟨1, some 429, .bin .lss (.t 428) (.k (.sc (.int .i64 4))), none, []⟩] false [51, 52, 429])
 (.cond (.t 429)
 (.skip)
 (.exit 4)))
 (.seq (.block 5 (.seq (.region 1 [
 ⟨0, some 433, .call true (.f 134) [], none, []⟩,
 ⟨1, some 434, .mv (.t 52), none, []⟩,
 ⟨2, some 435, .call true (.f 135) [.t 433, .k (.sc (.int .i64 0)), .t 434], none, []⟩,
 ⟨3, some 432, .mv (.t 435), none, []⟩,
 ⟨4, some 436, .ext (.t 432) 0, none, []⟩,
 ⟨5, some 437, .ext (.t 432) 1, none, []⟩,
 ⟨6, some 53, .alloc 0 [.int .i64 0, .int .i64 0], none, []⟩,
 ⟨7, none, .store 2 (.t 53) (.t 436), none, []⟩,
 ⟨8, some 54, .mv (.t 437), none, []⟩] false [51, 52, 53, 54])
 (.seq (.region 0 [
 ⟨0, some 438, .mv (.t 54), none, []⟩,
 ⟨1, some 439, .bin .neq (.t 438) (.k (.sc (.int .i64 0))), none, []⟩,
 ⟨2, some 440, .mv (.t 439), none, []⟩,
 ⟨3, some 441, .load (some 2) (.t 53), some (440, false), []⟩,
 ⟨4, some 442, .mv (.t 51), some (440, false), []⟩,
 ⟨5, some 443, .mv (.t 52), some (440, false), []⟩,
 ⟨6, some 444, .iaddr 2 (.t 442) (.t 443), some (440, false), []⟩,
 ⟨7, some 445, .load (some 2) (.t 444), some (440, false), []⟩,
 ⟨8, some 446, .eqf true ⟨true, [1, 1]⟩ (.t 441) (.t 445), some (440, false), []⟩,
 ⟨9, some 447, .pick (.t 440) (.k (.sc (.bool true))) (.t 446), none, []⟩] true [51, 52, 447])
 (.cond (.t 447)
 (.seq (.region 0 [
 ⟨0, some 0, .mv (.k (.sc (.bool false))), none, []⟩] false [0])
 (.ret))
 (.skip)))))
 (.region 0 [
 ⟨0, some 430, .mv (.t 52), none, []⟩,
 ⟨1, some 431, .bin .add (.t 430) (.k (.sc (.int .i64 1))), none, []⟩,
 ⟨2, some 52, .mv (.t 431), none, []⟩] false [51, 52])))
def d7n : AC := .loop [51, 52] d7l
def d7o : Fn := ⟨0, 592, [(0, none)],
 (.seq (.region 0 [
 ⟨0, some 0, .mv (.k (.sc (.bool false))), none, []⟩] false [])
 (.seq (.region 1 [
 ⟨0, some 65, .build [.sl .nil 2 [], .int .i64 0, .int .i64 0, .int .i64 0, .int .i64 0, .int .i64 0, .int .i64 0, .sl .nil 3 [], .sl .nil 2 [], .sl .nil 4 []] [], none, []⟩,
 ⟨1, some 66, .call true (.f 134) [], none, []⟩,
 ⟨2, some 67, .call false (.f 232) [], none, []⟩,
 ⟨3, some 68, .call false (.f 232) [], none, []⟩,
 ⟨4, some 69, .call true (.f 134) [], none, []⟩,
 ⟨5, some 70, .call true (.f 134) [], none, []⟩,
 ⟨6, some 71, .call true (.f 134) [], none, []⟩,
 ⟨7, some 72, .call false (.f 232) [], none, []⟩,
 ⟨8, some 73, .call true (.f 134) [], none, []⟩,
 ⟨9, some 74, .call true (.f 168) [.k (.sc (.int .i64 4)), .k (.sc (.sl .nil 4 []))], none, []⟩,
 ⟨10, some 75, .build [.int .i64 0, .int .i64 0, .int .i64 0, .int .i64 0] [(0, 1, .k (.sc (.int .i64 2)))], none, []⟩,
 ⟨11, some 76, .bslice 4 1 [.int .i64 0, .int .i64 0, .int .i64 0, .int .i64 0] [(0, .t 75)], none, []⟩,
 ⟨12, some 77, .call true (.f 168) [.k (.sc (.int .i64 1)), .t 76], none, []⟩,
 ⟨13, some 78, .build [.int .i64 0, .int .i64 0, .int .i64 0, .int .i64 0] [(1, 1, .k (.sc (.int .i64 4)))], none, []⟩,
 ⟨14, some 79, .bslice 4 1 [.int .i64 0, .int .i64 0, .int .i64 0, .int .i64 0] [(0, .t 78)], none, []⟩,
 ⟨15, some 80, .call true (.f 168) [.k (.sc (.int .i64 1)), .t 79], none, []⟩,
 ⟨16, some 81, .build [.int .i64 0, .int .i64 0, .int .i64 0, .int .i64 0] [(2, 1, .k (.sc (.int .i64 (-151))))], none, []⟩,
 ⟨17, some 82, .bslice 4 1 [.int .i64 0, .int .i64 0, .int .i64 0, .int .i64 0] [(0, .t 81)], none, []⟩,
 ⟨18, some 83, .call true (.f 168) [.k (.sc (.int .i64 1)), .t 82], none, []⟩,
 ⟨19, some 84, .build [.int .i64 0, .int .i64 0, .int .i64 0, .int .i64 0] [(2, 1, .k (.sc (.int .i64 31)))], none, []⟩,
 ⟨20, some 85, .bslice 4 1 [.int .i64 0, .int .i64 0, .int .i64 0, .int .i64 0] [(0, .t 84)], none, []⟩,
 ⟨21, some 86, .call true (.f 168) [.k (.sc (.int .i64 1)), .t 85], none, []⟩,
 ⟨22, some 87, .build [.int .i64 0, .int .i64 0, .int .i64 0, .int .i64 0] [(3, 1, .k (.sc (.int .i64 4)))], none, []⟩,
 ⟨23, some 88, .bslice 4 1 [.int .i64 0, .int .i64 0, .int .i64 0, .int .i64 0] [(0, .t 87)], none, []⟩,
 ⟨24, some 89, .call true (.f 168) [.k (.sc (.int .i64 1)), .t 88], none, []⟩,
 ⟨25, some 90, .bslice 4 5 [.int .i64 0, .int .i64 0, .int .i64 0, .int .i64 0] [], none, []⟩,
 ⟨26, some 91, .call true (.f 168) [.k (.sc (.int .i64 1)), .t 90], none, []⟩,
 ⟨27, some 92, .bmsl 0 10 16 [.sl .nil 2 [], .int .i64 0, .int .i64 0, .int .i64 0, .int .i64 0, .int .i64 0, .int .i64 0, .sl .nil 3 [], .sl .nil 2 [], .sl .nil 4 []] [(0, .t 65), (1, .t 66), (2, .t 67), (3, .t 68), (4, .t 69), (5, .t 70), (6, .t 71), (7, .t 72), (8, .t 73), (9, .t 74), (10, .t 77), (11, .t 80), (12, .t 83), (13, .t 86), (14, .t 89), (15, .t 91)], none, []⟩,
 ⟨28, some 1, .mv (.t 92), none, []⟩] true [1])
 (.seq (.region 0 [
 ⟨0, some 93, .mv (.t 1), none, []⟩,
 ⟨1, some 94, .mv (.t 1), none, []⟩,
 ⟨2, some 95, .iaddr 10 (.t 94) (.k (.sc (.int .i64 1))), none, []⟩,
 ⟨3, some 96, .faddr 0 (.t 95), none, []⟩,
 ⟨4, some 97, .load none (.t 96), none, []⟩,
 ⟨5, some 98, .mv (.t 1), none, []⟩,
 ⟨6, some 99, .iaddr 10 (.t 98) (.k (.sc (.int .i64 1))), none, []⟩,
 ⟨7, some 100, .faddr 0 (.t 99), none, []⟩,
 ⟨8, some 101, .load none (.t 100), none, []⟩,
 ⟨9, some 102, .append 2 (.tk 97) (.t 101), none, []⟩,
 ⟨10, some 103, .iaddr 10 (.t 93) (.k (.sc (.int .i64 1))), none, []⟩,
 ⟨11, some 104, .faddr 0 (.t 103), none, []⟩,
 ⟨12, none, .store 1 (.t 104) (.tk 102), none, []⟩] true [1])
 (.seq (.region 0 [
 ⟨0, some 105, .mv (.t 1), none, []⟩,
 ⟨1, some 106, .iaddr 10 (.t 105) (.k (.sc (.int .i64 2))), none, []⟩,
 ⟨2, some 107, .faddr 0 (.t 106), none, []⟩,
 ⟨3, some 108, .load none (.t 107), none, []⟩,
 ⟨4, some 109, .call true (.f 33) [.k (.sc (.int .i64 10)), .k (.sc (.int .i64 13))], none, []⟩,
 ⟨5, some 110, .iaddr 2 (.t 108) (.k (.sc (.int .i64 0))), none, []⟩,
 ⟨6, none, .store 2 (.t 110) (.t 109), none, []⟩] true [1])
 (.seq (.region 0 [
 ⟨0, some 111, .mv (.t 1), none, []⟩,
 ⟨1, some 112, .iaddr 10 (.t 111) (.k (.sc (.int .i64 3))), none, []⟩,
 ⟨2, some 113, .faddr 0 (.t 112), none, []⟩,
 ⟨3, some 114, .load none (.t 113), none, []⟩,
 ⟨4, some 115, .call true (.f 30) [.k (.sc (.int .i64 31))], none, []⟩,
 ⟨5, some 116, .iaddr 2 (.t 114) (.k (.sc (.int .i64 1))), none, []⟩,
 ⟨6, none, .store 2 (.t 116) (.t 115), none, []⟩] true [1])
 (.seq (.region 0 [
 ⟨0, some 117, .mv (.t 1), none, []⟩,
 ⟨1, some 118, .call true (.f 33) [.k (.sc (.int .i64 2)), .k (.sc (.int .i64 4))], none, []⟩,
 ⟨2, some 119, .iaddr 10 (.t 117) (.k (.sc (.int .i64 4))), none, []⟩,
 ⟨3, some 120, .faddr 1 (.t 119), none, []⟩,
 ⟨4, some 121, .iarr 3 2 (.t 120) (.k (.sc (.int .i64 0))), none, []⟩,
 ⟨5, none, .store 2 (.t 121) (.t 118), none, []⟩] true [1])
 (.seq (.region 0 [
 ⟨0, some 122, .mv (.t 1), none, []⟩,
 ⟨1, some 123, .call true (.f 30) [.k (.sc (.int .i64 7))], none, []⟩,
 ⟨2, some 124, .iaddr 10 (.t 122) (.k (.sc (.int .i64 5))), none, []⟩,
 ⟨3, some 125, .faddr 1 (.t 124), none, []⟩,
 ⟨4, some 126, .iarr 3 2 (.t 125) (.k (.sc (.int .i64 2))), none, []⟩,
 ⟨5, none, .store 2 (.t 126) (.t 123), none, []⟩] true [1])
 (.seq (.region 0 [
 ⟨0, some 127, .mv (.t 1), none, []⟩,
 ⟨1, some 128, .mv (.t 1), none, []⟩,
 ⟨2, some 129, .iaddr 10 (.t 128) (.k (.sc (.int .i64 6))), none, []⟩,
 ⟨3, some 130, .faddr 7 (.t 129), none, []⟩,
 ⟨4, some 131, .load none (.t 130), none, []⟩,
 ⟨5, some 132, .mv (.t 1), none, []⟩,
 ⟨6, some 133, .iaddr 10 (.t 132) (.k (.sc (.int .i64 6))), none, []⟩,
 ⟨7, some 134, .faddr 7 (.t 133), none, []⟩,
 ⟨8, some 135, .load none (.t 134), none, []⟩,
 ⟨9, some 136, .append 3 (.tk 131) (.t 135), none, []⟩,
 ⟨10, some 137, .iaddr 10 (.t 127) (.k (.sc (.int .i64 6))), none, []⟩,
 ⟨11, some 138, .faddr 7 (.t 137), none, []⟩,
 ⟨12, none, .store 1 (.t 138) (.tk 136), none, []⟩] true [1])
 (.seq (.region 0 [
 ⟨0, some 139, .mv (.t 1), none, []⟩,
 ⟨1, some 140, .iaddr 10 (.t 139) (.k (.sc (.int .i64 7))), none, []⟩,
 ⟨2, some 141, .faddr 7 (.t 140), none, []⟩,
 ⟨3, some 142, .load none (.t 141), none, []⟩,
 ⟨4, some 143, .iaddr 3 (.t 142) (.k (.sc (.int .i64 0))), none, []⟩,
 ⟨5, some 144, .faddr 0 (.t 143), none, []⟩,
 ⟨6, none, .store 1 (.t 144) (.k (.sc (.int .i64 3))), none, []⟩] false [1])
 (.seq (.region 0 [
 ⟨0, some 145, .mv (.t 1), none, []⟩,
 ⟨1, some 146, .bslice 1 2 [.int .i64 0] [(0, .k (.sc (.int .i64 4))), (1, .k (.sc (.int .i64 0)))], none, []⟩,
 ⟨2, some 147, .call true (.f 139) [.t 146], none, []⟩,
 ⟨3, some 148, .iaddr 10 (.t 145) (.k (.sc (.int .i64 8))), none, []⟩,
 ⟨4, some 149, .faddr 8 (.t 148), none, []⟩,
 ⟨5, none, .store 1 (.t 149) (.t 147), none, []⟩] false [1])
 (.seq (.frzc 1 (.seq (.region 0 [
 ⟨0, some 2, .mv (.k (.sc (.int .i64 0))), none, []⟩] false [1, 2])
 (.block 0 (d7r))))
 (.seq (.region 0 [
 ⟨0, some 286, .bslice 1 4 [.int .i64 0] [(0, .k (.sc (.int .i64 1))), (1, .k (.sc (.int .i64 1))), (2, .k (.sc (.int .i64 0))), (3, .k (.sc (.int .i64 0)))], none, []⟩,
 ⟨1, some 287, .bslice 1 2 [.int .i64 0] [(0, .k (.sc (.int .i64 4))), (1, .k (.sc (.int .i64 0)))], none, []⟩,
 ⟨2, some 288, .bslice 1 2 [.int .i64 0] [(0, .k (.sc (.int .i64 0))), (1, .k (.sc (.int .i64 2)))], none, []⟩,
 ⟨3, some 289, .bslice 1 2 [.int .i64 0] [(0, .k (.sc (.int .i64 (-1)))), (1, .k (.sc (.int .i64 0)))], none, []⟩,
 ⟨4, some 290, .bslice 1 4 [.int .i64 0] [(0, .k (.sc (.int .i64 0))), (1, .k (.sc (.int .i64 0))), (2, .k (.sc (.int .i64 0))), (3, .k (.sc (.int .i64 0)))], none, []⟩,
 ⟨5, some 291, .bslice 1 4 [.int .i64 0] [(0, .k (.sc (.int .i64 0))), (1, .k (.sc (.int .i64 1))), (2, .k (.sc (.int .i64 0))), (3, .k (.sc (.int .i64 0)))], none, []⟩,
 ⟨6, some 292, .bslice 1 6 [.sl .nil 1 []] [(0, .t 286), (1, .t 287), (2, .t 288), (3, .t 289), (4, .t 290), (5, .t 291)], none, []⟩,
 ⟨7, some 24, .mv (.t 292), none, []⟩] false [24])
 (.seq (.seq (.region 0 [
 ⟨0, some 25, .mv (.k (.sc (.int .i64 0))), none, []⟩] false [24, 25])
 (.block 2 (d7m)))
 (.seq (.region 1 [
 ⟨0, some 329, .call true (.f 142) [], none, []⟩,
 ⟨1, some 330, .call true (.f 135) [.t 329, .k (.sc (.int .i64 2)), .k (.sc (.int .i64 0))], none, []⟩,
 ⟨2, some 328, .mv (.t 330), none, []⟩,
 ⟨3, some 331, .ext (.t 328) 0, none, []⟩,
 ⟨4, some 332, .ext (.t 328) 1, none, []⟩,
 ⟨5, some 30, .alloc 0 [.int .i64 0, .int .i64 0], none, []⟩,
 ⟨6, none, .store 2 (.t 30) (.t 331), none, []⟩,
 ⟨7, some 31, .mv (.t 332), none, []⟩] false [31])
 (.seq (.region 1 [
 ⟨0, some 334, .call true (.f 142) [], none, []⟩,
 ⟨1, some 335, .call true (.f 135) [.t 334, .k (.sc (.int .i64 0)), .k (.sc (.int .i64 4))], none, []⟩,
 ⟨2, some 333, .mv (.t 335), none, []⟩,
 ⟨3, some 336, .ext (.t 333) 0, none, []⟩,
 ⟨4, some 337, .ext (.t 333) 1, none, []⟩,
 ⟨5, some 32, .alloc 0 [.int .i64 0, .int .i64 0], none, []⟩,
 ⟨6, none, .store 2 (.t 32) (.t 336), none, []⟩,
 ⟨7, some 33, .mv (.t 337), none, []⟩] false [31, 33])
 (.seq (.region 1 [
 ⟨0, some 339, .call true (.f 142) [], none, []⟩,
 ⟨1, some 340, .call true (.f 137) [.t 339, .k (.sc (.int .i64 3))], none, []⟩,
 ⟨2, some 338, .mv (.t 340), none, []⟩,
 ⟨3, some 341, .ext (.t 338) 0, none, []⟩,
 ⟨4, some 342, .ext (.t 338) 1, none, []⟩,
 ⟨5, some 34, .alloc 0 [.int .i64 0, .int .i64 0], none, []⟩,
 ⟨6, none, .store 2 (.t 34) (.t 341), none, []⟩,
 ⟨7, some 35, .mv (.t 342), none, []⟩] false [31, 33, 35])
 (.seq (.region 0 [
 ⟨0, some 344, .call true (.f 142) [], none, []⟩,
 ⟨1, some 345, .call true (.f 138) [.t 344, .k (.sc (.int .i64 (-1)))], none, []⟩,
 ⟨2, some 343, .mv (.t 345), none, []⟩,
 ⟨3, some 346, .ext (.t 343) 0, none, []⟩,
 ⟨4, some 347, .ext (.t 343) 1, none, []⟩,
 ⟨5, some 36, .mv (.t 346), none, []⟩,
 ⟨6, some 37, .mv (.t 347), none, []⟩] false [31, 33, 35, 37])
 (.seq (.region 0 [
 ⟨0, some 349, .call true (.f 142) [], none, []⟩,
 ⟨1, some 350, .build [.int .i64 0, .int .i64 0, .int .i64 0, .int .i64 0] [(3, 1, .k (.sc (.int .i64 4)))], none, []⟩,
 ⟨2, some 351, .call true (.f 141) [.t 349, .t 350], none, []⟩,
 ⟨3, some 348, .mv (.t 351), none, []⟩,
 ⟨4, some 352, .ext (.t 348) 0, none, []⟩,
 ⟨5, some 353, .ext (.t 348) 1, none, []⟩,
 ⟨6, some 38, .mv (.t 352), none, []⟩,
 ⟨7, some 39, .mv (.t 353), none, []⟩] false [31, 33, 35, 37, 39])
 (.seq (.region 1 [
 ⟨0, some 355, .call true (.f 142) [], none, []⟩,
 ⟨1, some 356, .call true (.f 135) [.t 355, .k (.sc (.int .i64 0)), .k (.sc (.int .i64 0))], none, []⟩,
 ⟨2, some 354, .mv (.t 356), none, []⟩,
 ⟨3, some 357, .ext (.t 354) 0, none, []⟩,
 ⟨4, some 358, .ext (.t 354) 1, none, []⟩,
 ⟨5, some 40, .alloc 0 [.int .i64 0, .int .i64 0], none, []⟩,
 ⟨6, none, .store 2 (.t 40) (.t 357), none, []⟩,
 ⟨7, some 41, .mv (.t 358), none, []⟩] false [31, 33, 35, 37, 39, 41])
 (.seq (.region 0 [
 ⟨0, some 360, .call true (.f 142) [], none, []⟩,
 ⟨1, some 361, .call true (.f 101) [.t 360], none, []⟩,
 ⟨2, some 359, .mv (.t 361), none, []⟩,
 ⟨3, some 362, .ext (.t 359) 0, none, []⟩,
 ⟨4, some 363, .ext (.t 359) 1, none, []⟩,
 ⟨5, some 364, .ext (.t 359) 2, none, []⟩,
 ⟨6, some 42, .mv (.t 362), none, []⟩,
 ⟨7, some 43, .mv (.t 363), none, []⟩,
 ⟨8, some 44, .mv (.t 364), none, []⟩] false [31, 33, 35, 37, 39, 41, 44])
 (.seq (.region 0 [
 ⟨0, some 366, .call true (.f 142) [], none, []⟩,
 ⟨1, some 367, .call true (.f 107) [.t 366], none, []⟩,
 ⟨2, some 365, .mv (.t 367), none, []⟩,
 ⟨3, some 368, .ext (.t 365) 0, none, []⟩,
 ⟨4, some 369, .ext (.t 365) 1, none, []⟩,
 ⟨5, some 45, .mv (.t 368), none, []⟩,
 ⟨6, some 46, .mv (.t 369), none, []⟩] false [31, 33, 35, 37, 39, 41, 44, 46])
 (.seq (.region 0 [
 ⟨0, some 371, .call true (.f 142) [], none, []⟩,
 ⟨1, some 372, .call true (.f 105) [.t 371, .k (.sc (.sl .nil 2 []))], none, []⟩,
 ⟨2, some 370, .mv (.t 372), none, []⟩,
 ⟨3, some 373, .ext (.t 370) 0, none, []⟩,
 ⟨4, some 374, .ext (.t 370) 1, none, []⟩,
 ⟨5, some 47, .mv (.t 373), none, []⟩,
 ⟨6, some 48, .mv (.t 374), none, []⟩] false [31, 33, 35, 37, 39, 41, 44, 46, 48])
 (.seq (.region 0 [
 ⟨0, some 376, .call true (.f 136) [], none, []⟩,
 ⟨1, some 377, .bslice 1 2 [.int .i64 0] [(0, .k (.sc (.int .i64 0))), (1, .k (.sc (.int .i64 0)))], none, []⟩,
 ⟨2, some 378, .call true (.f 139) [.t 377], none, []⟩,
 ⟨3, some 379, .call true (.f 103) [.t 376, .t 378], none, []⟩,
 ⟨4, some 375, .mv (.t 379), none, []⟩,
 ⟨5, some 380, .ext (.t 375) 0, none, []⟩,
 ⟨6, some 381, .ext (.t 375) 1, none, []⟩,
 ⟨7, some 49, .mv (.t 380), none, []⟩,
 ⟨8, some 50, .mv (.t 381), none, []⟩] false [31, 33, 35, 37, 39, 41, 44, 46, 48, 49, 50])
 (.seq (.seq (.region 0 [
 ⟨0, some 382, .mv (.t 31), none, []⟩,
 ⟨1, some 383, .bin .neq (.t 382) (.k (.sc (.int .i64 41))), none, []⟩,
 ⟨2, some 384, .mv (.t 383), none, []⟩,
 ⟨3, some 385, .mv (.t 33), some (384, false), []⟩,
 ⟨4, some 386, .bin .neq (.t 385) (.k (.sc (.int .i64 41))), some (384, false), []⟩,
 ⟨5, some 387, .pick (.t 384) (.k (.sc (.bool true))) (.t 386), none, []⟩,
 ⟨6, some 388, .mv (.t 387), none, []⟩,
 ⟨7, some 389, .mv (.t 35), some (388, false), []⟩,
 ⟨8, some 390, .bin .neq (.t 389) (.k (.sc (.int .i64 41))), some (388, false), []⟩,
 ⟨9, some 391, .pick (.t 388) (.k (.sc (.bool true))) (.t 390), none, []⟩,
 ⟨10, some 392, .mv (.t 391), none, []⟩,
 ⟨11, some 393, .mv (.t 37), some (392, false), []⟩,
 ⟨12, some 394, .bin .neq (.t 393) (.k (.sc (.int .i64 41))), some (392, false), []⟩,
 ⟨13, some 395, .pick (.t 392) (.k (.sc (.bool true))) (.t 394), none, []⟩,
 ⟨14, some 396, .mv (.t 395), none, []⟩,
 ⟨15, some 397, .mv (.t 39), some (396, false), []⟩,
 ⟨16, some 398, .bin .neq (.t 397) (.k (.sc (.int .i64 41))), some (396, false), []⟩,
 ⟨17, some 399, .pick (.t 396) (.k (.sc (.bool true))) (.t 398), none, []⟩,
 ⟨18, some 400, .mv (.t 399), none, []⟩,
 ⟨19, some 401, .mv (.t 41), some (400, false), []⟩,
 ⟨20, some 402, .bin .neq (.t 401) (.k (.sc (.int .i64 42))), some (400, false), []⟩,
 ⟨21, some 403, .pick (.t 400) (.k (.sc (.bool true))) (.t 402), none, []⟩,
 ⟨22, some 404, .mv (.t 403), none, []⟩,
 ⟨23, some 405, .mv (.t 44), some (404, false), []⟩,
 ⟨24, some 406, .bin .neq (.t 405) (.k (.sc (.int .i64 42))), some (404, false), []⟩,
 ⟨25, some 407, .pick (.t 404) (.k (.sc (.bool true))) (.t 406), none, []⟩,
 ⟨26, some 408, .mv (.t 407), none, []⟩,
 ⟨27, some 409, .mv (.t 46), some (408, false), []⟩,
 ⟨28, some 410, .bin .neq (.t 409) (.k (.sc (.int .i64 42))), some (408, false), []⟩,
 ⟨29, some 411, .pick (.t 408) (.k (.sc (.bool true))) (.t 410), none, []⟩,
 ⟨30, some 412, .mv (.t 411), none, []⟩,
 ⟨31, some 413, .mv (.t 48), some (412, false), []⟩,
 ⟨32, some 414, .bin .neq (.t 413) (.k (.sc (.int .i64 42))), some (412, false), []⟩,
 ⟨33, some 415, .pick (.t 412) (.k (.sc (.bool true))) (.t 414), none, []⟩,
 ⟨34, some 416, .mv (.t 415), none, []⟩,
 ⟨35, some 417, .mv (.t 50), some (416, false), []⟩,
 ⟨36, some 418, .bin .neq (.t 417) (.k (.sc (.int .i64 0))), some (416, false), []⟩,
 ⟨37, some 419, .pick (.t 416) (.k (.sc (.bool true))) (.t 418), none, []⟩,
 ⟨38, some 420, .mv (.t 419), none, []⟩,
 ⟨39, some 421, .mv (.t 49), some (420, false), []⟩,
 ⟨40, some 422, .pick (.t 420) (.k (.sc (.bool true))) (.t 421), none, []⟩] false [422])
 (.cond (.t 422)
 (.seq (.region 0 [
 ⟨0, some 0, .mv (.k (.sc (.bool false))), none, []⟩] false [0])
 (.ret))
 (.skip)))
 (.seq (.region 0 [
 ⟨0, some 423, .call true (.f 33) [.k (.sc (.int .i64 3)), .k (.sc (.int .i64 5))], none, []⟩,
 ⟨1, some 424, .call true (.f 33) [.k (.sc (.int .i64 2)), .k (.sc (.int .i64 5))], none, []⟩,
 ⟨2, some 425, .call true (.f 33) [.k (.sc (.int .i64 1)), .k (.sc (.int .i64 5))], none, []⟩,
 ⟨3, some 426, .call true (.f 33) [.k (.sc (.int .i64 (-2))), .k (.sc (.int .i64 5))], none, []⟩,
 ⟨4, some 427, .bslice 2 4 [.int .i64 0, .int .i64 0] [(0, .t 423), (1, .t 424), (2, .t 425), (3, .t 426)], none, []⟩,
 ⟨5, some 51, .mv (.t 427), none, []⟩] false [51])
 (.seq (.seq (.region 0 [
 ⟨0, some 52, .mv (.k (.sc (.int .i64 0))), none, []⟩] false [51, 52])
 (.block 4 (d7n)))
 (.seq (.region 1 [
 ⟨0, some 449, .call true (.f 134) [], none, []⟩,
 ⟨1, some 450, .call true (.f 135) [.t 449, .k (.sc (.int .i64 1)), .k (.sc (.int .i64 2))], none, []⟩,
 ⟨2, some 448, .mv (.t 450), none, []⟩,
 ⟨3, some 451, .ext (.t 448) 0, none, []⟩,
 ⟨4, some 452, .ext (.t 448) 1, none, []⟩,
 ⟨5, some 55, .alloc 0 [.int .i64 0, .int .i64 0], none, []⟩,
 ⟨6, none, .store 2 (.t 55) (.t 451), none, []⟩,
 ⟨7, some 31, .mv (.t 452), none, []⟩] false [31, 55])
 (.seq (.region 1 [
 ⟨0, some 454, .call true (.f 136) [], none, []⟩,
 ⟨1, some 455, .call true (.f 135) [.t 454, .k (.sc (.int .i64 0)), .k (.sc (.int .i64 1))], none, []⟩,
 ⟨2, some 453, .mv (.t 455), none, []⟩,
 ⟨3, some 456, .ext (.t 453) 0, none, []⟩,
 ⟨4, some 457, .ext (.t 453) 1, none, []⟩,
 ⟨5, some 56, .alloc 0 [.int .i64 0, .int .i64 0], none, []⟩,
 ⟨6, none, .store 2 (.t 56) (.t 456), none, []⟩,
 ⟨7, some 33, .mv (.t 457), none, []⟩] false [31, 33, 55, 56])
 (.seq (.region 1 [
 ⟨0, some 459, .call true (.f 136) [], none, []⟩,
 ⟨1, some 460, .call true (.f 137) [.t 459, .k (.sc (.int .i64 2))], none, []⟩,
 ⟨2, some 458, .mv (.t 460), none, []⟩,
 ⟨3, some 461, .ext (.t 458) 0, none, []⟩,
 ⟨4, some 462, .ext (.t 458) 1, none, []⟩,
 ⟨5, some 57, .alloc 0 [.int .i64 0, .int .i64 0], none, []⟩,
 ⟨6, none, .store 2 (.t 57) (.t 461), none, []⟩,
 ⟨7, some 35, .mv (.t 462), none, []⟩] false [31, 33, 35, 55, 56, 57])
 (.seq (.region 0 [
 ⟨0, some 464, .call true (.f 134) [], none, []⟩,
 ⟨1, some 465, .call true (.f 138) [.t 464, .k (.sc (.int .i64 0))], none, []⟩,
 ⟨2, some 463, .mv (.t 465), none, []⟩,
 ⟨3, some 466, .ext (.t 463) 0, none, []⟩,
 ⟨4, some 467, .ext (.t 463) 1, none, []⟩,
 ⟨5, some 58, .mv (.t 466), none, []⟩,
 ⟨6, some 37, .mv (.t 467), none, []⟩] false [31, 33, 35, 37, 55, 56, 57, 58])
 (.seq (.region 0 [
 ⟨0, some 469, .call true (.f 136) [], none, []⟩,
 ⟨1, some 470, .call true (.f 107) [.t 469], none, []⟩,
 ⟨2, some 468, .mv (.t 470), none, []⟩,
 ⟨3, some 471, .ext (.t 468) 0, none, []⟩,
 ⟨4, some 472, .ext (.t 468) 1, none, []⟩,
 ⟨5, some 59, .mv (.t 471), none, []⟩,
 ⟨6, some 39, .mv (.t 472), none, []⟩] false [31, 33, 35, 37, 39, 55, 56, 57, 58, 59])
 (.seq (.region 0 [
 ⟨0, some 474, .call true (.f 134) [], none, []⟩,
 ⟨1, some 475, .bslice 1 2 [.int .i64 0] [(0, .k (.sc (.int .i64 0))), (1, .k (.sc (.int .i64 0)))], none, []⟩,
 ⟨2, some 476, .call true (.f 139) [.t 475], none, []⟩,
 ⟨3, some 477, .call true (.f 105) [.t 474, .t 476], none, []⟩,
 ⟨4, some 473, .mv (.t 477), none, []⟩,
 ⟨5, some 478, .ext (.t 473) 0, none, []⟩,
 ⟨6, some 479, .ext (.t 473) 1, none, []⟩,
 ⟨7, some 60, .mv (.t 478), none, []⟩,
 ⟨8, some 41, .mv (.t 479), none, []⟩] false [31, 33, 35, 37, 39, 41, 55, 56, 57, 58, 59, 60])
 (.seq (.region 0 [
 ⟨0, some 481, .call true (.f 134) [], none, []⟩,
 ⟨1, some 482, .bslice 1 4 [.int .i64 0] [(0, .k (.sc (.int .i64 1))), (1, .k (.sc (.int .i64 0))), (2, .k (.sc (.int .i64 1))), (3, .k (.sc (.int .i64 1)))], none, []⟩,
 ⟨2, some 483, .call true (.f 139) [.t 482], none, []⟩,
 ⟨3, some 484, .call true (.f 105) [.t 481, .t 483], none, []⟩,
 ⟨4, some 480, .mv (.t 484), none, []⟩,
 ⟨5, some 485, .ext (.t 480) 0, none, []⟩,
 ⟨6, some 486, .ext (.t 480) 1, none, []⟩,
 ⟨7, some 61, .mv (.t 485), none, []⟩,
 ⟨8, some 44, .mv (.t 486), none, []⟩] false [31, 33, 35, 37, 39, 41, 44, 55, 56, 57, 58, 59, 60, 61])
 (.seq (.region 0 [
 ⟨0, some 488, .call true (.f 134) [], none, []⟩,
 ⟨1, some 489, .build [.int .i64 0, .int .i64 0, .int .i64 0, .int .i64 0] [(0, 1, .k (.sc (.int .i64 1))), (2, 1, .k (.sc (.int .i64 3)))], none, []⟩,
 ⟨2, some 490, .call true (.f 141) [.t 488, .t 489], none, []⟩,
 ⟨3, some 487, .mv (.t 490), none, []⟩,
 ⟨4, some 491, .ext (.t 487) 0, none, []⟩,
 ⟨5, some 492, .ext (.t 487) 1, none, []⟩,
 ⟨6, some 62, .mv (.t 491), none, []⟩,
 ⟨7, some 46, .mv (.t 492), none, []⟩] false [31, 33, 35, 37, 39, 41, 44, 46, 55, 56, 57, 58, 59, 60, 61, 62])
 (.seq (.region 0 [
 ⟨0, some 494, .call true (.f 142) [], none, []⟩,
 ⟨1, some 495, .call true (.f 209) [.t 494], none, []⟩,
 ⟨2, some 493, .mv (.t 495), none, []⟩,
 ⟨3, some 496, .ext (.t 493) 0, none, []⟩,
 ⟨4, some 497, .ext (.t 493) 1, none, []⟩,
 ⟨5, some 63, .mv (.t 496), none, []⟩,
 ⟨6, some 48, .mv (.t 497), none, []⟩] false [31, 33, 35, 37, 39, 41, 44, 46, 48, 55, 56, 57, 58, 59, 60, 61, 62, 63])
 (.seq (.region 0 [
 ⟨0, some 499, .call true (.f 136) [], none, []⟩,
 ⟨1, some 500, .call true (.f 143) [.t 499], none, []⟩,
 ⟨2, some 498, .mv (.t 500), none, []⟩,
 ⟨3, some 501, .ext (.t 498) 0, none, []⟩,
 ⟨4, some 502, .ext (.t 498) 1, none, []⟩,
 ⟨5, some 64, .mv (.t 501), none, []⟩,
 ⟨6, some 50, .mv (.t 502), none, []⟩] false [31, 33, 35, 37, 39, 41, 44, 46, 48, 50, 55, 56, 57, 58, 59, 60, 61, 62, 63, 64])
 (.seq (.region 0 [
 ⟨0, some 503, .mv (.t 31), none, []⟩,
 ⟨1, some 504, .bin .eql (.t 503) (.k (.sc (.int .i64 0))), none, []⟩,
 ⟨2, some 505, .mv (.t 504), none, []⟩,
 ⟨3, some 506, .load (some 2) (.t 55), some (505, true), []⟩,
 ⟨4, some 507, .call true (.f 33) [.k (.sc (.int .i64 (-1))), .k (.sc (.int .i64 2))], some (505, true), []⟩,
 ⟨5, some 508, .eqf false ⟨true, [1, 1]⟩ (.t 506) (.t 507), some (505, true), []⟩,
 ⟨6, some 509, .pick (.t 505) (.t 508) (.k (.sc (.bool false))), none, []⟩,
 ⟨7, some 510, .mv (.t 509), none, []⟩,
 ⟨8, some 511, .mv (.t 33), some (510, true), []⟩,
 ⟨9, some 512, .bin .eql (.t 511) (.k (.sc (.int .i64 0))), some (510, true), []⟩,
 ⟨10, some 513, .pick (.t 510) (.t 512) (.k (.sc (.bool false))), none, []⟩,
 ⟨11, some 514, .mv (.t 513), none, []⟩,
 ⟨12, some 515, .load (some 2) (.t 56), some (514, true), []⟩,
 ⟨13, some 516, .call true (.f 33) [.k (.sc (.int .i64 2)), .k (.sc (.int .i64 3))], some (514, true), []⟩,
 ⟨14, some 517, .eqf false ⟨true, [1, 1]⟩ (.t 515) (.t 516), some (514, true), []⟩,
 ⟨15, some 518, .pick (.t 514) (.t 517) (.k (.sc (.bool false))), none, []⟩,
 ⟨16, some 519, .mv (.t 518), none, []⟩,
 ⟨17, some 520, .mv (.t 35), some (519, true), []⟩,
 ⟨18, some 521, .bin .eql (.t 520) (.k (.sc (.int .i64 0))), some (519, true), []⟩,
 ⟨19, some 522, .pick (.t 519) (.t 521) (.k (.sc (.bool false))), none, []⟩,
 ⟨20, some 523, .mv (.t 522), none, []⟩,
 ⟨21, some 524, .load (some 2) (.t 57), some (523, true), []⟩,
 ⟨22, some 525, .call true (.f 33) [.k (.sc (.int .i64 3)), .k (.sc (.int .i64 4))], some (523, true), []⟩,
 ⟨23, some 526, .eqf false ⟨true, [1, 1]⟩ (.t 524) (.t 525), some (523, true), []⟩,
 ⟨24, some 527, .pick (.t 523) (.t 526) (.k (.sc (.bool false))), none, []⟩,
 ⟨25, some 528, .mv (.t 527), none, []⟩,
 ⟨26, some 529, .mv (.t 37), some (528, true), []⟩,
 ⟨27, some 530, .bin .eql (.t 529) (.k (.sc (.int .i64 0))), some (528, true), []⟩,
 ⟨28, some 531, .pick (.t 528) (.t 530) (.k (.sc (.bool false))), none, []⟩,
 ⟨29, some 532, .mv (.t 531), none, []⟩,
 ⟨30, some 533, .mv (.t 58), some (532, true), []⟩,
 ⟨31, some 534, .bin .eql (.t 533) (.k (.sc (.int .i64 3))), some (532, true), []⟩,
 ⟨32, some 535, .pick (.t 532) (.t 534) (.k (.sc (.bool false))), none, []⟩,
 ⟨33, some 536, .mv (.t 535), none, []⟩,
 ⟨34, some 537, .mv (.t 39), some (536, true), []⟩,
 ⟨35, some 538, .bin .eql (.t 537) (.k (.sc (.int .i64 0))), some (536, true), []⟩,
 ⟨36, some 539, .pick (.t 536) (.t 538) (.k (.sc (.bool false))), none, []⟩,
 ⟨37, some 540, .mv (.t 539), none, []⟩,
 ⟨38, some 541, .mv (.t 59), some (540, true), []⟩,
 ⟨39, some 542, .bslice 1 4 [.int .i64 0] [(0, .k (.sc (.int .i64 1))), (1, .k (.sc (.int .i64 0))), (2, .k (.sc (.int .i64 2))), (3, .k (.sc (.int .i64 1)))], some (540, true), []⟩,
 ⟨40, some 543, .call true (.f 139) [.t 542], some (540, true), []⟩,
 ⟨41, some 544, .call true (.f 109) [.t 541, .t 543], some (540, true), []⟩,
 ⟨42, some 545, .pick (.t 540) (.t 544) (.k (.sc (.bool false))), none, []⟩,
 ⟨43, some 546, .mv (.t 545), none, []⟩,
 ⟨44, some 547, .mv (.t 41), some (546, true), []⟩,
 ⟨45, some 548, .bin .eql (.t 547) (.k (.sc (.int .i64 0))), some (546, true), []⟩,
 ⟨46, some 549, .pick (.t 546) (.t 548) (.k (.sc (.bool false))), none, []⟩,
 ⟨47, some 550, .mv (.t 549), none, []⟩,
 ⟨48, some 551, .mv (.t 60), some (550, true), []⟩,
 ⟨49, some 552, .un .not (.t 551), some (550, true), []⟩,
 ⟨50, some 553, .pick (.t 550) (.t 552) (.k (.sc (.bool false))), none, []⟩,
 ⟨51, some 554, .mv (.t 553), none, []⟩,
 ⟨52, some 555, .mv (.t 44), some (554, true), []⟩,
 ⟨53, some 556, .bin .eql (.t 555) (.k (.sc (.int .i64 0))), some (554, true), []⟩,
 ⟨54, some 557, .pick (.t 554) (.t 556) (.k (.sc (.bool false))), none, []⟩,
 ⟨55, some 558, .mv (.t 557), none, []⟩,
 ⟨56, some 559, .mv (.t 61), some (558, true), []⟩,
 ⟨57, some 560, .un .not (.t 559), some (558, true), []⟩,
 ⟨58, some 561, .pick (.t 558) (.t 560) (.k (.sc (.bool false))), none, []⟩,
 ⟨59, some 562, .mv (.t 561), none, []⟩,
 ⟨60, some 563, .mv (.t 46), some (562, true), []⟩,
 ⟨61, some 564, .bin .eql (.t 563) (.k (.sc (.int .i64 0))), some (562, true), []⟩,
 ⟨62, some 565, .pick (.t 562) (.t 564) (.k (.sc (.bool false))), none, []⟩,
 ⟨63, some 566, .mv (.t 565), none, []⟩,
 ⟨64, some 567, .mv (.t 62), some (566, true), []⟩,
 ⟨65, some 568, .un .not (.t 567), some (566, true), []⟩,
 ⟨66, some 569, .pick (.t 566) (.t 568) (.k (.sc (.bool false))), none, []⟩,
 ⟨67, some 570, .mv (.t 569), none, []⟩,
 ⟨68, some 571, .mv (.t 48), some (570, true), []⟩,
 ⟨69, some 572, .bin .eql (.t 571) (.k (.sc (.int .i64 0))), some (570, true), []⟩,
 ⟨70, some 573, .pick (.t 570) (.t 572) (.k (.sc (.bool false))), none, []⟩,
 ⟨71, some 574, .mv (.t 573), none, []⟩,
 ⟨72, some 575, .mv (.t 63), some (574, true), []⟩,
 ⟨73, some 576, .un .not (.t 575), some (574, true), []⟩,
 ⟨74, some 577, .pick (.t 574) (.t 576) (.k (.sc (.bool false))), none, []⟩,
 ⟨75, some 578, .mv (.t 577), none, []⟩,
 ⟨76, some 579, .mv (.t 50), some (578, true), []⟩,
 ⟨77, some 580, .bin .eql (.t 579) (.k (.sc (.int .i64 0))), some (578, true), []⟩,
 ⟨78, some 581, .pick (.t 578) (.t 580) (.k (.sc (.bool false))), none, []⟩,
 ⟨79, some 582, .mv (.t 581), none, []⟩,
 ⟨80, some 583, .mv (.t 64), some (582, true), []⟩,
 ⟨81, some 584, .len 1 (.t 583), some (582, true), []⟩,
 ⟨82, some 585, .bin .eql (.t 584) (.k (.sc (.int .i64 0))), some (582, true), []⟩,
 ⟨83, some 586, .pick (.t 582) (.t 585) (.k (.sc (.bool false))), none, []⟩,
 ⟨84, some 587, .mv (.t 586), none, []⟩,
 ⟨85, some 588, .pick (.t 587) (.k (.sc (.bool true))) (.k (.sc (.bool false))), none, []⟩,
 ⟨86, some 589, .mv (.t 588), none, []⟩,
 ⟨87, some 590, .call true (.f 110) [], some (589, true), []⟩,
 ⟨88, some 591, .pick (.t 589) (.t 590) (.k (.sc (.bool false))), none, []⟩,
 ⟨89, some 0, .mv (.t 591), none, []⟩] true [0])
 (.ret)))))))))))))))))))))))))))))))))))))), false⟩
def a2t : Fn := ⟨2, 37, [(4, none), (5, none)],
 (.seq (.region 2 [
 ⟨0, some 2, .box 0 (.t 0), none, []⟩,
 ⟨1, some 3, .box 1 (.t 1), none, []⟩,
 ⟨2, some 4, .mv (.k (.sc (.bool false))), none, []⟩,
 ⟨3, some 5, .mv (.k (.sc (.int .i64 0))), none, []⟩] false [2, 3])
 (.seq (.seq (.region 1 [
 ⟨0, some 9, .load (some 10) (.t 2), none, []⟩,
 ⟨1, some 10, .load (some 10) (.t 2), none, []⟩,
 ⟨2, some 11, .load (some 4) (.t 3), none, []⟩,
 ⟨3, some 12, .call true (.f 154) [.t 10, .t 11], none, []⟩,
 ⟨4, some 13, .call true (.f 111) [.t 9, .t 12], none, []⟩,
 ⟨5, some 8, .mv (.t 13), none, []⟩,
 ⟨6, some 14, .ext (.t 8) 0, none, []⟩,
 ⟨7, some 15, .ext (.t 8) 1, none, []⟩,
 ⟨8, some 6, .alloc 0 [.sl .nil 2 [], .int .i64 0, .int .i64 0, .int .i64 0, .int .i64 0, .int .i64 0, .int .i64 0, .sl .nil 3 [], .sl .nil 2 [], .sl .nil 4 [], .imap true false [], .sl .nil 4 []], none, [0, 1, 2]⟩,
 ⟨9, none, .store 12 (.t 6) (.t 14), none, []⟩,
 ⟨10, some 7, .mv (.t 15), none, []⟩] true [2, 3, 7])
 (.seq (.region 0 [
 ⟨0, some 16, .mv (.t 7), none, []⟩,
 ⟨1, some 17, .bin .neq (.t 16) (.k (.sc (.int .i64 0))), none, []⟩] false [2, 3, 7, 17])
 (.cond (.t 17)
 (.seq (.region 0 [
 ⟨0, some 18, .mv (.t 7), none, []⟩,
 ⟨1, some 4, .mv (.k (.sc (.bool false))), none, []⟩,
 ⟨2, some 5, .mv (.t 18), none, []⟩] false [4, 5])
 (.ret))
 (.skip))))
 (.seq (.region 0 [
 ⟨0, some 19, .faddr 9 (.t 2), none, []⟩,
 ⟨1, some 20, .load none (.t 19), none, []⟩,
 ⟨2, some 21, .faddr 9 (.t 2), none, []⟩,
 ⟨3, some 22, .load none (.t 21), none, []⟩,
 ⟨4, some 23, .len 1 (.t 22), none, []⟩,
 ⟨5, some 24, .faddr 9 (.t 2), none, []⟩,
 ⟨6, some 25, .load none (.t 24), none, []⟩,
 ⟨7, some 26, .len 1 (.t 25), none, []⟩,
 ⟨8, some 27, .slice 4 (.t 20) none (some (.t 23)) (some (.t 26)), none, []⟩,
 ⟨9, some 28, .load (some 4) (.t 3), none, []⟩,
 ⟨10, some 29, .bslice 4 1 [.int .i64 0, .int .i64 0, .int .i64 0, .int .i64 0] [(0, .t 28)], none, []⟩,
 ⟨11, some 30, .append 4 (.tk 27) (.t 29), none, []⟩,
 ⟨12, some 31, .faddr 9 (.t 2), none, []⟩,
 ⟨13, none, .store 1 (.t 31) (.tk 30), none, []⟩] true [2])
 (.seq (.region 0 [
 ⟨0, some 32, .load (some 10) (.t 2), none, []⟩,
 ⟨1, some 33, .call true (.f 144) [.t 32, .k (.sc (.sl .nil 1 []))], none, []⟩,
 ⟨2, some 34, .field 11 none (.t 33), none, []⟩,
 ⟨3, some 35, .len 1 (.t 34), none, []⟩,
 ⟨4, some 36, .bin .gtr (.t 35) (.k (.sc (.int .i64 0))), none, []⟩,
 ⟨5, some 4, .mv (.t 36), none, []⟩,
 ⟨6, some 5, .mv (.k (.sc (.int .i64 0))), none, []⟩] false [4, 5])
 (.ret))))), false⟩
def a1U : AC :=
 (.seq (.region 0 [
 ⟨0, some 20, .bin .lss (.t 19) (.t 18), none, []⟩] false [5, 18, 19, 20])
 (.seq (.cond (.t 20)
 (.skip)
 (.exit 0))
 (.seq (.block 1 (.seq (.region 0 [
 ⟨0, some 21, .mv (.t 19), none, []⟩,
 ⟨1, some 6, .mv (.t 21), none, []⟩] false [5, 6, 18, 19])
 (.seq (.region 0 [
 ⟨0, some 23, .load none (.t 5), none, []⟩,
 ⟨1, some 24, .mv (.t 6), none, []⟩,
 ⟨2, some 25, .call false (.t 23) [.k (.sc (.sl .nil 1 [])), .t 24], none, []⟩,
 ⟨3, some 22, .mv (.t 25), none, []⟩,
 ⟨4, some 26, .ext (.t 22) 0, none, []⟩,
 ⟨5, some 27, .ext (.t 22) 1, none, []⟩,
 ⟨6, some 7, .mv (.t 26), none, []⟩,
 ⟨7, some 8, .mv (.t 27), none, []⟩] false [5, 7, 8, 18, 19])
 (.seq (.region 0 [
 ⟨0, some 28, .mv (.t 8), none, []⟩] false [5, 7, 18, 19, 28])
 (.cond (.t 28)
 (.seq (.region 0 [
 ⟨0, some 29, .mv (.t 7), none, []⟩,
 ⟨1, some 30, .mv (.t 7), none, []⟩,
 ⟨2, some 31, .len 1 (.t 30), none, []⟩,
 ⟨3, some 32, .mv (.t 7), none, []⟩,
 ⟨4, some 33, .len 1 (.t 32), none, []⟩,
 ⟨5, some 34, .slice 1 (.t 29) none (some (.t 31)) (some (.t 33)), none, []⟩,
 ⟨6, some 2, .mv (.t 34), none, []⟩,
 ⟨7, some 3, .mv (.k (.sc (.int .i64 0))), none, []⟩] false [2, 3])
 (.ret))
 (.skip))))))
 (.region 0 [
 ⟨0, some 35, .bin .add (.t 19) (.k (.sc (.int .i64 1))), none, []⟩,
 ⟨1, some 19, .mv (.t 35), none, []⟩] false [5, 18, 19]))))
def a8t : AC := .loop [5, 18, 19] a1U
def a4l : Fn := ⟨1, 36, [(2, none), (3, none)],
 (.seq (.region 1 [
 ⟨0, some 1, .box 0 (.t 0), none, []⟩,
 ⟨1, some 2, .mv (.k (.sc (.sl .nil 1 []))), none, []⟩,
 ⟨2, some 3, .mv (.k (.sc (.int .i64 0))), none, []⟩] false [1])
 (.frz 1 (.seq (.seq (.region 0 [
 ⟨0, some 9, .load (some 10) (.t 1), none, []⟩,
 ⟨1, some 10, .call true (.f 117) [.t 9], none, []⟩,
 ⟨2, some 4, .mv (.t 10), none, []⟩] false [1, 4])
 (.seq (.region 0 [
 ⟨0, some 11, .mv (.t 4), none, []⟩,
 ⟨1, some 12, .bin .neq (.t 11) (.k (.sc (.int .i64 0))), none, []⟩] false [1, 4, 12])
 (.cond (.t 12)
 (.seq (.region 0 [
 ⟨0, some 13, .mv (.t 4), none, []⟩,
 ⟨1, some 2, .mv (.k (.sc (.sl .nil 1 []))), none, []⟩,
 ⟨2, some 3, .mv (.t 13), none, []⟩] false [2, 3])
 (.ret))
 (.skip))))
 (.seq (.region 1 [
 ⟨0, some 5, .alloc 0 [.nilf], none, []⟩] false [1, 5])
 (.seq (.region 0 [
 ⟨0, some 14, .mkf 170 [] [] [.t 1, .t 5], none, []⟩,
 ⟨1, none, .store 1 (.t 5) (.t 14), none, []⟩] false [1, 5])
 (.seq (.seq (.region 0 [
 ⟨0, some 15, .faddr 9 (.t 1), none, []⟩,
 ⟨1, some 16, .load none (.t 15), none, []⟩,
 ⟨2, some 17, .len 1 (.t 16), none, []⟩,
 ⟨3, some 18, .bin .add (.t 17) (.k (.sc (.int .i64 1))), none, []⟩,
 ⟨4, some 19, .mv (.k (.sc (.int .i64 0))), none, []⟩] false [5, 18, 19])
 (.block 0 (a8t)))
 (.seq (.region 0 [
 ⟨0, some 2, .mv (.k (.sc (.sl .nil 1 []))), none, []⟩,
 ⟨1, some 3, .mv (.k (.sc (.int .i64 0))), none, []⟩] false [2, 3])
 (.ret)))))))), false⟩
def a1b : AC :=
 (.seq (.seq (.region 0 [
 ⟨0, some 12, .mv (.t 5), none, []⟩,
 ⟨1, some 13, .mv (.t 12), none, []⟩,
 ⟨2, some 14, .mv (.t 6), some (13, true), []⟩,
 ⟨3, some 15, .mv (.t 0), some (13, true), []⟩,
 ⟨4, some 16, .len 1 (.t 15), some (13, true), []⟩,
 ⟨5, some 17, .bin .lss (.t 14) (.t 16), some (13, true), []⟩,
 ⟨6, some 18, .pick (.t 13) (.t 17) (.k (.sc (.bool false))), none, []⟩] false [0, 1, 5, 6, 18])
 (.cond (.t 18)
 (.skip)
 (.exit 0)))
 (.seq (.block 1 (.region 0 [
 ⟨0, some 21, .mv (.t 0), none, []⟩,
 ⟨1, some 22, .mv (.t 6), none, []⟩,
 ⟨2, some 23, .iaddr 1 (.t 21) (.t 22), none, []⟩,
 ⟨3, some 24, .load none (.t 23), none, []⟩,
 ⟨4, some 25, .mv (.t 1), none, []⟩,
 ⟨5, some 26, .mv (.t 6), none, []⟩,
 ⟨6, some 27, .iaddr 1 (.t 25) (.t 26), none, []⟩,
 ⟨7, some 28, .load none (.t 27), none, []⟩,
 ⟨8, some 29, .bin .eql (.t 24) (.t 28), none, []⟩,
 ⟨9, some 5, .mv (.t 29), none, []⟩] true [0, 1, 5, 6]))
 (.region 0 [
 ⟨0, some 19, .mv (.t 6), none, []⟩,
 ⟨1, some 20, .bin .add (.t 19) (.k (.sc (.int .i64 1))), none, []⟩,
 ⟨2, some 6, .mv (.t 20), none, []⟩] false [0, 1, 5, 6])))
def a6n : AC := .loop [0, 1, 5, 6] a1b
def a3l : Fn := ⟨2, 31, [(4, none)],
 (.seq (.region 0 [
 ⟨0, some 4, .mv (.k (.sc (.bool false))), none, []⟩] false [0, 1])
 (.seq (.region 0 [
 ⟨0, some 7, .mv (.t 0), none, []⟩,
 ⟨1, some 8, .len 1 (.t 7), none, []⟩,
 ⟨2, some 9, .mv (.t 1), none, []⟩,
 ⟨3, some 10, .len 1 (.t 9), none, []⟩,
 ⟨4, some 11, .bin .eql (.t 8) (.t 10), none, []⟩,
 ⟨5, some 5, .mv (.t 11), none, []⟩] false [0, 1, 5])
 (.seq (.seq (.region 0 [
 ⟨0, some 6, .mv (.k (.sc (.int .i64 0))), none, []⟩] false [0, 1, 5, 6])
 (.block 0 (a6n)))
 (.seq (.region 0 [
 ⟨0, some 30, .mv (.t 5), none, []⟩,
 ⟨1, some 4, .mv (.t 30), none, []⟩] false [4])
 (.ret))))), false⟩
def a3M : Fn := ⟨0, 173, [(0, none)],
 (.seq (.region 0 [
 ⟨0, some 0, .mv (.k (.sc (.bool false))), none, []⟩] false [])
 (.seq (.region 1 [
 ⟨0, some 20, .call true (.f 134) [], none, []⟩,
 ⟨1, some 21, .call true (.f 135) [.t 20, .k (.sc (.int .i64 0)), .k (.sc (.int .i64 3))], none, []⟩,
 ⟨2, some 19, .mv (.t 21), none, []⟩,
 ⟨3, some 22, .ext (.t 19) 0, none, []⟩,
 ⟨4, some 23, .ext (.t 19) 1, none, []⟩,
 ⟨5, some 1, .alloc 0 [.int .i64 0, .int .i64 0], none, []⟩,
 ⟨6, none, .store 2 (.t 1) (.t 22), none, []⟩,
 ⟨7, some 2, .mv (.t 23), none, []⟩] false [1, 2])
 (.seq (.region 1 [
 ⟨0, some 25, .call true (.f 136) [], none, []⟩,
 ⟨1, some 26, .call true (.f 135) [.t 25, .k (.sc (.int .i64 1)), .k (.sc (.int .i64 0))], none, []⟩,
 ⟨2, some 24, .mv (.t 26), none, []⟩,
 ⟨3, some 27, .ext (.t 24) 0, none, []⟩,
 ⟨4, some 28, .ext (.t 24) 1, none, []⟩,
 ⟨5, some 3, .alloc 0 [.int .i64 0, .int .i64 0], none, []⟩,
 ⟨6, none, .store 2 (.t 3) (.t 27), none, []⟩,
 ⟨7, some 4, .mv (.t 28), none, []⟩] false [1, 2, 3, 4])
 (.seq (.region 1 [
 ⟨0, some 30, .call true (.f 136) [], none, []⟩,
 ⟨1, some 31, .call true (.f 137) [.t 30, .k (.sc (.int .i64 0))], none, []⟩,
 ⟨2, some 29, .mv (.t 31), none, []⟩,
 ⟨3, some 32, .ext (.t 29) 0, none, []⟩,
 ⟨4, some 33, .ext (.t 29) 1, none, []⟩,
 ⟨5, some 5, .alloc 0 [.int .i64 0, .int .i64 0], none, []⟩,
 ⟨6, none, .store 2 (.t 5) (.t 32), none, []⟩,
 ⟨7, some 6, .mv (.t 33), none, []⟩] false [1, 2, 3, 4, 5, 6])
 (.seq (.region 0 [
 ⟨0, some 35, .call true (.f 134) [], none, []⟩,
 ⟨1, some 36, .call true (.f 138) [.t 35, .k (.sc (.int .i64 1))], none, []⟩,
 ⟨2, some 34, .mv (.t 36), none, []⟩,
 ⟨3, some 37, .ext (.t 34) 0, none, []⟩,
 ⟨4, some 38, .ext (.t 34) 1, none, []⟩,
 ⟨5, some 7, .mv (.t 37), none, []⟩,
 ⟨6, some 8, .mv (.t 38), none, []⟩] false [1, 2, 3, 4, 5, 6, 7, 8])
 (.seq (.region 0 [
 ⟨0, some 40, .call true (.f 134) [], none, []⟩,
 ⟨1, some 41, .call true (.f 101) [.t 40], none, []⟩,
 ⟨2, some 39, .mv (.t 41), none, []⟩,
 ⟨3, some 42, .ext (.t 39) 0, none, []⟩,
 ⟨4, some 43, .ext (.t 39) 1, none, []⟩,
 ⟨5, some 44, .ext (.t 39) 2, none, []⟩,
 ⟨6, some 9, .mv (.t 42), none, []⟩,
 ⟨7, some 10, .mv (.t 43), none, []⟩,
 ⟨8, some 11, .mv (.t 44), none, []⟩] false [1, 2, 3, 4, 5, 6, 7, 8, 9, 10, 11])
 (.seq (.seq (.region 0 [
 ⟨0, some 45, .mv (.t 2), none, []⟩,
 ⟨1, some 46, .bin .neq (.t 45) (.k (.sc (.int .i64 0))), none, []⟩,
 ⟨2, some 47, .mv (.t 46), none, []⟩,
 ⟨3, some 48, .mv (.t 4), some (47, false), []⟩,
 ⟨4, some 49, .bin .neq (.t 48) (.k (.sc (.int .i64 0))), some (47, false), []⟩,
 ⟨5, some 50, .pick (.t 47) (.k (.sc (.bool true))) (.t 49), none, []⟩,
 ⟨6, some 51, .mv (.t 50), none, []⟩,
 ⟨7, some 52, .mv (.t 6), some (51, false), []⟩,
 ⟨8, some 53, .bin .neq (.t 52) (.k (.sc (.int .i64 0))), some (51, false), []⟩,
 ⟨9, some 54, .pick (.t 51) (.k (.sc (.bool true))) (.t 53), none, []⟩,
 ⟨10, some 55, .mv (.t 54), none, []⟩,
 ⟨11, some 56, .mv (.t 8), some (55, false), []⟩,
 ⟨12, some 57, .bin .neq (.t 56) (.k (.sc (.int .i64 0))), some (55, false), []⟩,
 ⟨13, some 58, .pick (.t 55) (.k (.sc (.bool true))) (.t 57), none, []⟩,
 ⟨14, some 59, .mv (.t 58), none, []⟩,
 ⟨15, some 60, .mv (.t 11), some (59, false), []⟩,
 ⟨16, some 61, .bin .neq (.t 60) (.k (.sc (.int .i64 0))), some (59, false), []⟩,
 ⟨17, some 62, .pick (.t 59) (.k (.sc (.bool true))) (.t 61), none, []⟩,
 ⟨18, some 63, .mv (.t 62), none, []⟩,
 ⟨19, some 64, .load (some 2) (.t 1), some (63, false), []⟩,
 ⟨20, some 65, .call true (.f 33) [.k (.sc (.int .i64 (-2))), .k (.sc (.int .i64 5))], some (63, false), []⟩,
 ⟨21, some 66, .eqf true ⟨true, [1, 1]⟩ (.t 64) (.t 65), some (63, false), []⟩,
 ⟨22, some 67, .pick (.t 63) (.k (.sc (.bool true))) (.t 66), none, []⟩,
 ⟨23, some 68, .mv (.t 67), none, []⟩,
 ⟨24, some 69, .load (some 2) (.t 3), some (68, false), []⟩,
 ⟨25, some 70, .call true (.f 30) [.k (.sc (.int .i64 1))], some (68, false), []⟩,
 ⟨26, some 71, .eqf true ⟨true, [1, 1]⟩ (.t 69) (.t 70), some (68, false), []⟩,
 ⟨27, some 72, .pick (.t 68) (.k (.sc (.bool true))) (.t 71), none, []⟩,
 ⟨28, some 73, .mv (.t 72), none, []⟩,
 ⟨29, some 74, .load (some 2) (.t 5), some (73, false), []⟩,
 ⟨30, some 75, .call true (.f 30) [.k (.sc (.int .i64 3))], some (73, false), []⟩,
 ⟨31, some 76, .eqf true ⟨true, [1, 1]⟩ (.t 74) (.t 75), some (73, false), []⟩,
 ⟨32, some 77, .pick (.t 73) (.k (.sc (.bool true))) (.t 76), none, []⟩,
 ⟨33, some 78, .mv (.t 77), none, []⟩,
 ⟨34, some 79, .mv (.t 7), some (78, false), []⟩,
 ⟨35, some 80, .bin .neq (.t 79) (.k (.sc (.int .i64 2))), some (78, false), []⟩,
 ⟨36, some 81, .pick (.t 78) (.k (.sc (.bool true))) (.t 80), none, []⟩,
 ⟨37, some 82, .mv (.t 81), none, []⟩,
 ⟨38, some 83, .mv (.t 9), some (82, false), []⟩,
 ⟨39, some 84, .bin .neq (.t 83) (.k (.sc (.int .i64 2))), some (82, false), []⟩,
 ⟨40, some 85, .pick (.t 82) (.k (.sc (.bool true))) (.t 84), none, []⟩,
 ⟨41, some 86, .mv (.t 85), none, []⟩,
 ⟨42, some 87, .mv (.t 10), some (86, false), []⟩,
 ⟨43, some 88, .bin .neq (.t 87) (.k (.sc (.int .i64 0))), some (86, false), []⟩,
 ⟨44, some 89, .pick (.t 86) (.k (.sc (.bool true))) (.t 88), none, []⟩] true [89])
 (.cond (.t 89)
 (.seq (.region 0 [
 ⟨0, some 0, .mv (.k (.sc (.bool false))), none, []⟩] false [0])
 (.ret))
 (.skip)))
 (.seq (.region 0 [
 ⟨0, some 91, .call true (.f 134) [], none, []⟩,
 ⟨1, some 92, .bslice 1 4 [.int .i64 0] [(0, .k (.sc (.int .i64 0))), (1, .k (.sc (.int .i64 0))), (2, .k (.sc (.int .i64 1))), (3, .k (.sc (.int .i64 1)))], none, []⟩,
 ⟨2, some 93, .call true (.f 139) [.t 92], none, []⟩,
 ⟨3, some 94, .call true (.f 105) [.t 91, .t 93], none, []⟩,
 ⟨4, some 90, .mv (.t 94), none, []⟩,
 ⟨5, some 95, .ext (.t 90) 0, none, []⟩,
 ⟨6, some 96, .ext (.t 90) 1, none, []⟩,
 ⟨7, some 12, .mv (.t 95), none, []⟩,
 ⟨8, some 2, .mv (.t 96), none, []⟩] false [2, 12])
 (.seq (.region 0 [
 ⟨0, some 98, .call true (.f 134) [], none, []⟩,
 ⟨1, some 99, .call true (.f 107) [.t 98], none, []⟩,
 ⟨2, some 97, .mv (.t 99), none, []⟩,
 ⟨3, some 100, .ext (.t 97) 0, none, []⟩,
 ⟨4, some 101, .ext (.t 97) 1, none, []⟩,
 ⟨5, some 13, .mv (.t 100), none, []⟩,
 ⟨6, some 4, .mv (.t 101), none, []⟩] false [2, 4, 12, 13])
 (.seq (.region 0 [
 ⟨0, some 103, .call true (.f 140) [], none, []⟩,
 ⟨1, some 104, .call true (.f 107) [.t 103], none, []⟩,
 ⟨2, some 102, .mv (.t 104), none, []⟩,
 ⟨3, some 105, .ext (.t 102) 0, none, []⟩,
 ⟨4, some 106, .ext (.t 102) 1, none, []⟩,
 ⟨5, some 14, .mv (.t 105), none, []⟩,
 ⟨6, some 6, .mv (.t 106), none, []⟩] false [2, 4, 6, 12, 13, 14])
 (.seq (.region 0 [
 ⟨0, some 108, .call true (.f 134) [], none, []⟩,
 ⟨1, some 109, .build [.int .i64 0, .int .i64 0, .int .i64 0, .int .i64 0] [(0, 1, .k (.sc (.int .i64 1))), (2, 1, .k (.sc (.int .i64 3))), (3, 1, .k (.sc (.int .i64 1)))], none, []⟩,
 ⟨2, some 110, .call true (.f 141) [.t 108, .t 109], none, []⟩,
 ⟨3, some 107, .mv (.t 110), none, []⟩,
 ⟨4, some 111, .ext (.t 107) 0, none, []⟩,
 ⟨5, some 112, .ext (.t 107) 1, none, []⟩,
 ⟨6, some 15, .mv (.t 111), none, []⟩,
 ⟨7, some 8, .mv (.t 112), none, []⟩] false [2, 4, 6, 8, 12, 13, 14, 15])
 (.seq (.region 0 [
 ⟨0, some 114, .call true (.f 142) [], none, []⟩,
 ⟨1, some 115, .call true (.f 143) [.t 114], none, []⟩,
 ⟨2, some 113, .mv (.t 115), none, []⟩,
 ⟨3, some 116, .ext (.t 113) 0, none, []⟩,
 ⟨4, some 117, .ext (.t 113) 1, none, []⟩,
 ⟨5, some 16, .mv (.t 116), none, []⟩,
 ⟨6, some 11, .mv (.t 117), none, []⟩] false [2, 4, 6, 8, 11, 12, 13, 14, 15, 16])
 (.seq (.region 0 [
 ⟨0, some 119, .call true (.f 134) [], none, []⟩,
 ⟨1, some 120, .bslice 1 4 [.int .i64 0] [(0, .k (.sc (.int .i64 0))), (1, .k (.sc (.int .i64 0))), (2, .k (.sc (.int .i64 1))), (3, .k (.sc (.int .i64 1)))], none, []⟩,
 ⟨2, some 121, .call true (.f 139) [.t 120], none, []⟩,
 ⟨3, some 122, .call true (.f 103) [.t 119, .t 121], none, []⟩,
 ⟨4, some 118, .mv (.t 122), none, []⟩,
 ⟨5, some 123, .ext (.t 118) 0, none, []⟩,
 ⟨6, some 124, .ext (.t 118) 1, none, []⟩,
 ⟨7, some 17, .mv (.t 123), none, []⟩,
 ⟨8, some 18, .mv (.t 124), none, []⟩] false [2, 4, 6, 8, 11, 12, 13, 14, 15, 16, 17, 18])
 (.seq (.region 0 [
 ⟨0, some 125, .mv (.t 2), none, []⟩,
 ⟨1, some 126, .bin .eql (.t 125) (.k (.sc (.int .i64 0))), none, []⟩,
 ⟨2, some 127, .mv (.t 126), none, []⟩,
 ⟨3, some 128, .mv (.t 4), some (127, true), []⟩,
 ⟨4, some 129, .bin .eql (.t 128) (.k (.sc (.int .i64 0))), some (127, true), []⟩,
 ⟨5, some 130, .pick (.t 127) (.t 129) (.k (.sc (.bool false))), none, []⟩,
 ⟨6, some 131, .mv (.t 130), none, []⟩,
 ⟨7, some 132, .mv (.t 6), some (131, true), []⟩,
 ⟨8, some 133, .bin .eql (.t 132) (.k (.sc (.int .i64 0))), some (131, true), []⟩,
 ⟨9, some 134, .pick (.t 131) (.t 133) (.k (.sc (.bool false))), none, []⟩,
 ⟨10, some 135, .mv (.t 134), none, []⟩,
 ⟨11, some 136, .mv (.t 8), some (135, true), []⟩,
 ⟨12, some 137, .bin .eql (.t 136) (.k (.sc (.int .i64 0))), some (135, true), []⟩,
 ⟨13, some 138, .pick (.t 135) (.t 137) (.k (.sc (.bool false))), none, []⟩,
 ⟨14, some 139, .mv (.t 138), none, []⟩,
 ⟨15, some 140, .mv (.t 11), some (139, true), []⟩,
 ⟨16, some 141, .bin .eql (.t 140) (.k (.sc (.int .i64 0))), some (139, true), []⟩,
 ⟨17, some 142, .pick (.t 139) (.t 141) (.k (.sc (.bool false))), none, []⟩,
 ⟨18, some 143, .mv (.t 142), none, []⟩,
 ⟨19, some 144, .mv (.t 18), some (143, true), []⟩,
 ⟨20, some 145, .bin .eql (.t 144) (.k (.sc (.int .i64 0))), some (143, true), []⟩,
 ⟨21, some 146, .pick (.t 143) (.t 145) (.k (.sc (.bool false))), none, []⟩,
 ⟨22, some 147, .mv (.t 146), none, []⟩,
 ⟨23, some 148, .mv (.t 12), some (147, true), []⟩,
 ⟨24, some 149, .pick (.t 147) (.t 148) (.k (.sc (.bool false))), none, []⟩,
 ⟨25, some 150, .mv (.t 149), none, []⟩,
 ⟨26, some 151, .mv (.t 13), some (150, true), []⟩,
 ⟨27, some 152, .bslice 1 4 [.int .i64 0] [(0, .k (.sc (.int .i64 0))), (1, .k (.sc (.int .i64 0))), (2, .k (.sc (.int .i64 1))), (3, .k (.sc (.int .i64 1)))], some (150, true), []⟩,
 ⟨28, some 153, .call true (.f 139) [.t 152], some (150, true), []⟩,
 ⟨29, some 154, .call true (.f 109) [.t 151, .t 153], some (150, true), []⟩,
 ⟨30, some 155, .pick (.t 150) (.t 154) (.k (.sc (.bool false))), none, []⟩,
 ⟨31, some 156, .mv (.t 155), none, []⟩,
 ⟨32, some 157, .mv (.t 14), some (156, true), []⟩,
 ⟨33, some 158, .bslice 1 4 [.int .i64 0] [(0, .k (.sc (.int .i64 0))), (1, .k (.sc (.int .i64 0))), (2, .k (.sc (.int .i64 2))), (3, .k (.sc (.int .i64 1)))], some (156, true), []⟩,
 ⟨34, some 159, .call true (.f 139) [.t 158], some (156, true), []⟩,
 ⟨35, some 160, .call true (.f 109) [.t 157, .t 159], some (156, true), []⟩,
 ⟨36, some 161, .pick (.t 156) (.t 160) (.k (.sc (.bool false))), none, []⟩,
 ⟨37, some 162, .mv (.t 161), none, []⟩,
 ⟨38, some 163, .mv (.t 15), some (162, true), []⟩,
 ⟨39, some 164, .pick (.t 162) (.t 163) (.k (.sc (.bool false))), none, []⟩,
 ⟨40, some 165, .mv (.t 164), none, []⟩,
 ⟨41, some 166, .mv (.t 16), some (165, true), []⟩,
 ⟨42, some 167, .bslice 1 1 [.int .i64 0] [(0, .k (.sc (.int .i64 0)))], some (165, true), []⟩,
 ⟨43, some 168, .call true (.f 23) [.t 166, .t 167], some (165, true), []⟩,
 ⟨44, some 169, .pick (.t 165) (.t 168) (.k (.sc (.bool false))), none, []⟩,
 ⟨45, some 170, .mv (.t 169), none, []⟩,
 ⟨46, some 171, .mv (.t 17), some (170, true), []⟩,
 ⟨47, some 172, .pick (.t 170) (.t 171) (.k (.sc (.bool false))), none, []⟩,
 ⟨48, some 0, .mv (.t 172), none, []⟩] false [0])
 (.ret))))))))))))))), false⟩
def a1T : AC :=
 (.seq (.region 0 [
 ⟨0, some 29, .bin .lss (.t 28) (.t 27), none, []⟩] false [1, 5, 6, 27, 28, 29])
 (.seq (.cond (.t 29)
 (.skip)
 (.exit 2))
 (.seq (.block 3 (.seq (.region 0 [
 ⟨0, some 30, .mv (.t 28), none, []⟩,
 ⟨1, some 7, .mv (.t 30), none, []⟩] false [1, 5, 6, 7, 27, 28])
 (.seq (.region 0 [
 ⟨0, some 31, .load (some 12) (.t 5), none, []⟩,
 ⟨1, some 32, .mv (.t 7), none, []⟩,
 ⟨2, some 33, .mv (.t 6), none, []⟩,
 ⟨3, some 34, .faddr 10 (.t 5), none, []⟩,
 ⟨4, some 35, .load none (.t 34), none, []⟩,
 ⟨5, some 36, .call true (.f 113) [.t 31, .t 32, .t 33, .t 35], none, []⟩] false [1, 5, 6, 7, 27, 28, 36])
 (.cond (.t 36)
 (.seq (.region 0 [
 ⟨0, some 37, .mv (.t 6), none, []⟩,
 ⟨1, some 38, .mv (.t 7), none, []⟩,
 ⟨2, some 2, .mv (.t 37), none, []⟩,
 ⟨3, some 3, .mv (.t 38), none, []⟩,
 ⟨4, some 4, .mv (.k (.sc (.int .i64 0))), none, []⟩] false [2, 3, 4])
 (.ret))
 (.skip)))))
 (.region 0 [
 ⟨0, some 39, .bin .add (.t 28) (.k (.sc (.int .i64 1))), none, []⟩,
 ⟨1, some 28, .mv (.t 39), none, []⟩] false [1, 5, 6, 27, 28]))))
def a8s : AC := .loop [1, 5, 6, 27, 28] a1T
def a4Z : AC :=
 (.seq (.seq (.region 0 [
 ⟨0, some 18, .mv (.t 6), none, []⟩,
 ⟨1, some 19, .faddr 7 (.t 1), none, []⟩,
 ⟨2, some 20, .load none (.t 19), none, []⟩,
 ⟨3, some 21, .len 1 (.t 20), none, []⟩,
 ⟨4, some 22, .bin .lss (.t 18) (.t 21), none, []⟩] false [1, 5, 6, 22])
 (.cond (.t 22)
 (.skip)
 (.exit 0)))
 (.seq (.block 1 (.seq (.region 0 [
 ⟨0, some 25, .faddr 0 (.t 1), none, []⟩,
 ⟨1, some 26, .load none (.t 25), none, []⟩,
 ⟨2, some 27, .len 1 (.t 26), none, []⟩,
 ⟨3, some 28, .mv (.k (.sc (.int .i64 0))), none, []⟩] false [1, 5, 6, 27, 28])
 (.block 2 (a8s))))
 (.region 0 [
 ⟨0, some 23, .mv (.t 6), none, []⟩,
 ⟨1, some 24, .bin .add (.t 23) (.k (.sc (.int .i64 1))), none, []⟩,
 ⟨2, some 6, .mv (.t 24), none, []⟩] false [1, 5, 6])))
def b2v : AC := .loop [1, 5, 6] a4Z
def a5i : Fn := ⟨1, 40, [(2, none), (3, none), (4, none)],
 (.seq (.region 1 [
 ⟨0, some 1, .box 0 (.t 0), none, []⟩,
 ⟨1, some 2, .mv (.k (.sc (.int .i64 0))), none, []⟩,
 ⟨2, some 3, .mv (.k (.sc (.int .i64 0))), none, []⟩,
 ⟨3, some 4, .mv (.k (.sc (.int .i64 0))), none, []⟩] false [1])
 (.seq (.region 1 [
 ⟨0, some 9, .load (some 10) (.t 1), none, []⟩,
 ⟨1, some 10, .call true (.f 111) [.t 9, .k (.sc (.bool true))], none, []⟩,
 ⟨2, some 8, .mv (.t 10), none, []⟩,
 ⟨3, some 11, .ext (.t 8) 0, none, []⟩,
 ⟨4, some 12, .ext (.t 8) 1, none, []⟩,
 ⟨5, some 5, .alloc 0 [.sl .nil 2 [], .int .i64 0, .int .i64 0, .int .i64 0, .int .i64 0, .int .i64 0, .int .i64 0, .sl .nil 3 [], .sl .nil 2 [], .sl .nil 4 [], .imap true false [], .sl .nil 4 []], none, []⟩,
 ⟨6, none, .store 12 (.t 5) (.t 11), none, []⟩,
 ⟨7, some 4, .mv (.t 12), none, []⟩] false [1, 4, 5])
 (.seq (.seq (.region 0 [
 ⟨0, some 13, .mv (.t 4), none, []⟩,
 ⟨1, some 14, .bin .neq (.t 13) (.k (.sc (.int .i64 0))), none, []⟩] false [1, 4, 5, 14])
 (.cond (.t 14)
 (.seq (.region 0 [
 ⟨0, some 15, .mv (.t 4), none, []⟩,
 ⟨1, some 2, .mv (.k (.sc (.int .i64 0))), none, []⟩,
 ⟨2, some 3, .mv (.k (.sc (.int .i64 0))), none, []⟩,
 ⟨3, some 4, .mv (.t 15), none, []⟩] false [2, 3, 4])
 (.ret))
 (.skip)))
 (.seq (.seq (.region 0 [
 ⟨0, some 16, .load (some 10) (.t 1), none, []⟩,
 ⟨1, some 17, .call true (.f 112) [.t 16], none, []⟩,
 ⟨2, some 6, .mv (.t 17), none, []⟩] false [1, 5, 6])
 (.block 0 (b2v)))
 (.seq (.region 0 [
 ⟨0, some 2, .mv (.k (.sc (.int .i64 0))), none, []⟩,
 ⟨1, some 3, .mv (.k (.sc (.int .i64 0))), none, []⟩,
 ⟨2, some 4, .mv (.k (.sc (.int .i64 4))), none, []⟩] false [2, 3, 4])
 (.ret)))))), false⟩
def a2u : Fn := ⟨3, 33, [(6, some (some 2)), (7, none)],
 (.seq (.region 2 [
 ⟨0, some 3, .box 0 (.t 0), none, []⟩,
 ⟨1, some 6, .alloc 1 [.int .i64 0, .int .i64 0], none, []⟩,
 ⟨2, some 7, .mv (.k (.sc (.int .i64 0))), none, []⟩] false [1, 2, 3, 6])
 (.seq (.region 1 [
 ⟨0, some 11, .load (some 10) (.t 3), none, []⟩,
 ⟨1, some 12, .load (some 10) (.t 3), none, []⟩,
 ⟨2, some 13, .mv (.t 1), none, []⟩,
 ⟨3, some 14, .call true (.f 153) [.t 12, .t 13], none, []⟩,
 ⟨4, some 15, .mv (.t 14), none, []⟩,
 ⟨5, some 16, .load (some 10) (.t 3), some (15, true), []⟩,
 ⟨6, some 17, .mv (.t 2), some (15, true), []⟩,
 ⟨7, some 18, .call true (.f 152) [.t 16, .t 17], some (15, true), []⟩,
 ⟨8, some 19, .pick (.t 15) (.t 18) (.k (.sc (.bool false))), none, []⟩,
 ⟨9, some 20, .call true (.f 111) [.t 11, .t 19], none, []⟩,
 ⟨10, some 10, .mv (.t 20), none, []⟩,
 ⟨11, some 21, .ext (.t 10) 0, none, []⟩,
 ⟨12, some 22, .ext (.t 10) 1, none, []⟩,
 ⟨13, some 8, .alloc 0 [.sl .nil 2 [], .int .i64 0, .int .i64 0, .int .i64 0, .int .i64 0, .int .i64 0, .int .i64 0, .sl .nil 3 [], .sl .nil 2 [], .sl .nil 4 [], .imap true false [], .sl .nil 4 []], none, [0, 1, 5]⟩,
 ⟨14, none, .store 12 (.t 8) (.t 21), none, []⟩,
 ⟨15, some 9, .mv (.t 22), none, []⟩] true [1, 2, 6, 8, 9])
 (.seq (.seq (.region 0 [
 ⟨0, some 23, .mv (.t 9), none, []⟩,
 ⟨1, some 24, .bin .neq (.t 23) (.k (.sc (.int .i64 0))), none, []⟩] false [1, 2, 6, 8, 9, 24])
 (.cond (.t 24)
 (.seq (.region 0 [
 ⟨0, some 25, .build [.int .i64 0, .int .i64 0] [], none, []⟩,
 ⟨1, some 26, .mv (.t 9), none, []⟩,
 ⟨2, none, .store 2 (.t 6) (.t 25), none, []⟩,
 ⟨3, some 7, .mv (.t 26), none, []⟩] false [6, 7])
 (.ret))
 (.skip)))
 (.seq (.region 0 [
 ⟨0, some 27, .load (some 12) (.t 8), none, []⟩,
 ⟨1, some 28, .mv (.t 1), none, []⟩,
 ⟨2, some 29, .mv (.t 2), none, []⟩,
 ⟨3, some 30, .faddr 10 (.t 8), none, []⟩,
 ⟨4, some 31, .load none (.t 30), none, []⟩,
 ⟨5, some 32, .call true (.f 167) [.t 27, .t 28, .t 29, .t 31], none, []⟩,
 ⟨6, none, .store 2 (.t 6) (.t 32), none, []⟩,
 ⟨7, some 7, .mv (.k (.sc (.int .i64 0))), none, []⟩] false [6, 7])
 (.ret))))), false⟩
def a1N : AC :=
 (.seq (.region 0 [
 ⟨0, some 24, .bin .lss (.t 23) (.t 22), none, []⟩] false [1, 6, 22, 23, 24])
 (.seq (.cond (.t 24)
 (.skip)
 (.exit 0))
 (.seq (.block 1 (.seq (.region 0 [
 ⟨0, some 25, .mv (.t 23), none, []⟩,
 ⟨1, some 8, .mv (.t 25), none, []⟩] false [1, 6, 8, 22, 23])
 (.seq (.region 0 [
 ⟨0, some 26, .load (some 12) (.t 6), none, []⟩,
 ⟨1, some 27, .mv (.t 1), none, []⟩,
 ⟨2, some 28, .mv (.t 8), none, []⟩,
 ⟨3, some 29, .faddr 10 (.t 6), none, []⟩,
 ⟨4, some 30, .load none (.t 29), none, []⟩,
 ⟨5, some 31, .call true (.f 146) [.t 26, .t 27, .t 28, .t 30], none, []⟩] false [1, 6, 8, 22, 23, 31])
 (.cond (.t 31)
 (.seq (.region 0 [
 ⟨0, some 32, .mv (.t 8), none, []⟩,
 ⟨1, some 4, .mv (.t 32), none, []⟩,
 ⟨2, some 5, .mv (.k (.sc (.int .i64 0))), none, []⟩] false [4, 5])
 (.ret))
 (.skip)))))
 (.region 0 [
 ⟨0, some 33, .bin .add (.t 23) (.k (.sc (.int .i64 1))), none, []⟩,
 ⟨1, some 23, .mv (.t 33), none, []⟩] false [1, 6, 22, 23]))))
def b1l : AC := .loop [1, 6, 22, 23] a1N
def a1Z : Fn := ⟨2, 34, [(4, none), (5, none)],
 (.seq (.region 1 [
 ⟨0, some 2, .box 0 (.t 0), none, []⟩,
 ⟨1, some 4, .mv (.k (.sc (.int .i64 0))), none, []⟩,
 ⟨2, some 5, .mv (.k (.sc (.int .i64 0))), none, []⟩] false [1, 2])
 (.seq (.region 1 [
 ⟨0, some 10, .load (some 10) (.t 2), none, []⟩,
 ⟨1, some 11, .load (some 10) (.t 2), none, []⟩,
 ⟨2, some 12, .mv (.t 1), none, []⟩,
 ⟨3, some 13, .call true (.f 153) [.t 11, .t 12], none, []⟩,
 ⟨4, some 14, .call true (.f 111) [.t 10, .t 13], none, []⟩,
 ⟨5, some 9, .mv (.t 14), none, []⟩,
 ⟨6, some 15, .ext (.t 9) 0, none, []⟩,
 ⟨7, some 16, .ext (.t 9) 1, none, []⟩,
 ⟨8, some 6, .alloc 0 [.sl .nil 2 [], .int .i64 0, .int .i64 0, .int .i64 0, .int .i64 0, .int .i64 0, .int .i64 0, .sl .nil 3 [], .sl .nil 2 [], .sl .nil 4 [], .imap true false [], .sl .nil 4 []], none, [0, 1]⟩,
 ⟨9, none, .store 12 (.t 6) (.t 15), none, []⟩,
 ⟨10, some 7, .mv (.t 16), none, []⟩] true [1, 2, 6, 7])
 (.seq (.seq (.region 0 [
 ⟨0, some 17, .mv (.t 7), none, []⟩,
 ⟨1, some 18, .bin .neq (.t 17) (.k (.sc (.int .i64 0))), none, []⟩] false [1, 2, 6, 7, 18])
 (.cond (.t 18)
 (.seq (.region 0 [
 ⟨0, some 19, .mv (.t 7), none, []⟩,
 ⟨1, some 4, .mv (.k (.sc (.int .i64 0))), none, []⟩,
 ⟨2, some 5, .mv (.t 19), none, []⟩] false [4, 5])
 (.ret))
 (.skip)))
 (.seq (.seq (.region 0 [
 ⟨0, some 20, .faddr 7 (.t 2), none, []⟩,
 ⟨1, some 21, .load none (.t 20), none, []⟩,
 ⟨2, some 22, .len 1 (.t 21), none, []⟩,
 ⟨3, some 23, .mv (.k (.sc (.int .i64 0))), none, []⟩] false [1, 6, 22, 23])
 (.block 0 (b1l)))
 (.seq (.region 0 [
 ⟨0, some 4, .mv (.k (.sc (.int .i64 0))), none, []⟩,
 ⟨1, some 5, .mv (.k (.sc (.int .i64 4))), none, []⟩] false [4, 5])
 (.ret)))))), false⟩
def a6B : Fn := ⟨2, 15, [(4, none), (5, none)],
 (.seq (.region 1 [
 ⟨0, some 2, .box 0 (.t 0), none, []⟩,
 ⟨1, some 4, .mv (.k (.sc (.bool false))), none, []⟩,
 ⟨2, some 5, .mv (.k (.sc (.int .i64 0))), none, []⟩] false [1, 2])
 (.seq (.seq (.region 0 [
 ⟨0, some 7, .load (some 10) (.t 2), none, []⟩,
 ⟨1, some 8, .call true (.f 117) [.t 7], none, []⟩,
 ⟨2, some 6, .mv (.t 8), none, []⟩] false [1, 2, 6])
 (.seq (.region 0 [
 ⟨0, some 9, .mv (.t 6), none, []⟩,
 ⟨1, some 10, .bin .neq (.t 9) (.k (.sc (.int .i64 0))), none, []⟩] false [1, 2, 6, 10])
 (.cond (.t 10)
 (.seq (.region 0 [
 ⟨0, some 11, .mv (.t 6), none, []⟩,
 ⟨1, some 4, .mv (.k (.sc (.bool false))), none, []⟩,
 ⟨2, some 5, .mv (.t 11), none, []⟩] false [4, 5])
 (.ret))
 (.skip))))
 (.seq (.region 0 [
 ⟨0, some 12, .load (some 10) (.t 2), none, []⟩,
 ⟨1, some 13, .mv (.t 1), none, []⟩,
 ⟨2, some 14, .call true (.f 118) [.t 12, .t 13], none, []⟩,
 ⟨3, some 4, .mv (.t 14), none, []⟩,
 ⟨4, some 5, .mv (.k (.sc (.int .i64 0))), none, []⟩] false [4, 5])
 (.ret)))), false⟩
def a1C : AC :=
 (.seq (.region 0 [
 ⟨0, some 35, .bin .lss (.t 34) (.t 33), none, []⟩] false [7, 9, 33, 34, 35])
 (.seq (.cond (.t 35)
 (.skip)
 (.exit 0))
 (.seq (.block 1 (.seq (.region 0 [
 ⟨0, some 36, .mv (.t 34), none, []⟩,
 ⟨1, some 10, .mv (.t 36), none, []⟩] false [7, 9, 10, 33, 34])
 (.seq (.region 0 [
 ⟨0, some 37, .load (some 12) (.t 7), none, []⟩,
 ⟨1, some 38, .mv (.t 10), none, []⟩,
 ⟨2, some 39, .mv (.t 9), none, []⟩,
 ⟨3, some 40, .call true (.f 122) [.t 37, .t 38, .t 39], none, []⟩,
 ⟨4, some 41, .un .not (.t 40), none, []⟩] false [7, 9, 33, 34, 41])
 (.cond (.t 41)
 (.seq (.region 0 [
 ⟨0, some 4, .mv (.k (.sc (.bool false))), none, []⟩,
 ⟨1, some 5, .mv (.k (.sc (.int .i64 0))), none, []⟩] false [4, 5])
 (.ret))
 (.skip)))))
 (.region 0 [
 ⟨0, some 42, .bin .add (.t 34) (.k (.sc (.int .i64 1))), none, []⟩,
 ⟨1, some 34, .mv (.t 42), none, []⟩] false [7, 9, 33, 34]))))
def a9b : AC := .loop [7, 9, 33, 34] a1C
def a1F : Fn := ⟨2, 46, [(4, none), (5, none)],
 (.seq (.region 1 [
 ⟨0, some 2, .box 0 (.t 0), none, []⟩,
 ⟨1, some 4, .mv (.k (.sc (.bool false))), none, []⟩,
 ⟨2, some 5, .mv (.k (.sc (.int .i64 0))), none, []⟩] false [1, 2])
 (.seq (.seq (.region 0 [
 ⟨0, some 11, .load (some 10) (.t 2), none, []⟩,
 ⟨1, some 12, .call true (.f 117) [.t 11], none, []⟩,
 ⟨2, some 6, .mv (.t 12), none, []⟩] false [1, 2, 6])
 (.seq (.region 0 [
 ⟨0, some 13, .mv (.t 6), none, []⟩,
 ⟨1, some 14, .bin .neq (.t 13) (.k (.sc (.int .i64 0))), none, []⟩] false [1, 2, 6, 14])
 (.cond (.t 14)
 (.seq (.region 0 [
 ⟨0, some 15, .mv (.t 6), none, []⟩,
 ⟨1, some 4, .mv (.k (.sc (.bool false))), none, []⟩,
 ⟨2, some 5, .mv (.t 15), none, []⟩] false [4, 5])
 (.ret))
 (.skip))))
 (.seq (.region 1 [
 ⟨0, some 17, .load (some 10) (.t 2), none, []⟩,
 ⟨1, some 18, .load (some 10) (.t 2), none, []⟩,
 ⟨2, some 19, .mv (.t 1), none, []⟩,
 ⟨3, some 20, .call true (.f 118) [.t 18, .t 19], none, []⟩,
 ⟨4, some 21, .call true (.f 111) [.t 17, .t 20], none, []⟩,
 ⟨5, some 16, .mv (.t 21), none, []⟩,
 ⟨6, some 22, .ext (.t 16) 0, none, []⟩,
 ⟨7, some 23, .ext (.t 16) 1, none, []⟩,
 ⟨8, some 7, .alloc 0 [.sl .nil 2 [], .int .i64 0, .int .i64 0, .int .i64 0, .int .i64 0, .int .i64 0, .int .i64 0, .sl .nil 3 [], .sl .nil 2 [], .sl .nil 4 [], .imap true false [], .sl .nil 4 []], none, [0, 1]⟩,
 ⟨9, none, .store 12 (.t 7) (.t 22), none, []⟩,
 ⟨10, some 8, .mv (.t 23), none, []⟩] true [1, 2, 7, 8])
 (.seq (.seq (.region 0 [
 ⟨0, some 24, .mv (.t 8), none, []⟩,
 ⟨1, some 25, .bin .neq (.t 24) (.k (.sc (.int .i64 0))), none, []⟩] false [1, 2, 7, 8, 25])
 (.cond (.t 25)
 (.seq (.region 0 [
 ⟨0, some 26, .mv (.t 8), none, []⟩,
 ⟨1, some 4, .mv (.k (.sc (.bool false))), none, []⟩,
 ⟨2, some 5, .mv (.t 26), none, []⟩] false [4, 5])
 (.ret))
 (.skip)))
 (.seq (.region 0 [
 ⟨0, some 27, .faddr 10 (.t 7), none, []⟩,
 ⟨1, some 28, .load none (.t 27), none, []⟩,
 ⟨2, some 29, .mv (.t 1), none, []⟩,
 ⟨3, some 30, .call true (.f 121) [.t 28, .t 29], none, []⟩,
 ⟨4, some 9, .mv (.t 30), none, []⟩] false [2, 7, 9])
 (.seq (.seq (.region 0 [
 ⟨0, some 31, .faddr 0 (.t 2), none, []⟩,
 ⟨1, some 32, .load none (.t 31), none, []⟩,
 ⟨2, some 33, .len 1 (.t 32), none, []⟩,
 ⟨3, some 34, .mv (.k (.sc (.int .i64 0))), none, []⟩] false [7, 9, 33, 34])
 (.block 0 (a9b)))
 (.seq (.region 0 [
 ⟨0, some 43, .load (some 12) (.t 7), none, []⟩,
 ⟨1, some 44, .mv (.t 9), none, []⟩,
 ⟨2, some 45, .call true (.f 123) [.t 43, .t 44], none, []⟩,
 ⟨3, some 4, .mv (.t 45), none, []⟩,
 ⟨4, some 5, .mv (.k (.sc (.int .i64 0))), none, []⟩] false [4, 5])
 (.ret)))))))), false⟩
def d2G : Fn := ⟨1, 15, [(2, none), (3, none)],
 (.seq (.region 1 [
 ⟨0, some 1, .box 0 (.t 0), none, []⟩,
 ⟨1, some 2, .mv (.k (.sc (.bool false))), none, []⟩,
 ⟨2, some 3, .mv (.k (.sc (.int .i64 0))), none, []⟩] false [1])
 (.seq (.seq (.region 0 [
 ⟨0, some 5, .load (some 10) (.t 1), none, []⟩,
 ⟨1, some 6, .call true (.f 117) [.t 5], none, []⟩,
 ⟨2, some 4, .mv (.t 6), none, []⟩] false [1, 4])
 (.seq (.region 0 [
 ⟨0, some 7, .mv (.t 4), none, []⟩,
 ⟨1, some 8, .bin .neq (.t 7) (.k (.sc (.int .i64 0))), none, []⟩] false [1, 4, 8])
 (.cond (.t 8)
 (.seq (.region 0 [
 ⟨0, some 9, .mv (.t 4), none, []⟩,
 ⟨1, some 2, .mv (.k (.sc (.bool false))), none, []⟩,
 ⟨2, some 3, .mv (.t 9), none, []⟩] false [2, 3])
 (.ret))
 (.skip))))
 (.seq (.region 0 [
 ⟨0, some 10, .load (some 10) (.t 1), none, []⟩,
 ⟨1, some 11, .call true (.f 144) [.t 10, .k (.sc (.sl .nil 1 []))], none, []⟩,
 ⟨2, some 12, .field 11 none (.t 11), none, []⟩,
 ⟨3, some 13, .len 1 (.t 12), none, []⟩,
 ⟨4, some 14, .bin .gtr (.t 13) (.k (.sc (.int .i64 0))), none, []⟩,
 ⟨5, some 2, .mv (.t 14), none, []⟩,
 ⟨6, some 3, .mv (.k (.sc (.int .i64 0))), none, []⟩] false [2, 3])
 (.ret)))), false⟩
def a6x : AC :=
 (.seq (.region 0 [
 ⟨0, some 40, .bin .lss (.t 39) (.t 38), none, []⟩] false [1, 3, 37, 38, 39, 40])
 (.seq (.cond (.t 40)
 (.skip)
 (.exit 0))
 (.seq (.block 1 (.seq (.region 1 [
 ⟨0, some 41, .iaddr 2 (.t 37) (.t 39), none, []⟩,
 ⟨1, some 42, .load (some 2) (.t 41), none, []⟩,
 ⟨2, some 5, .alloc 0 [.int .i64 0, .int .i64 0], none, []⟩,
 ⟨3, none, .store 2 (.t 5) (.t 42), none, []⟩] false [1, 3, 5, 37, 38, 39])
 (.region 0 [
 ⟨0, some 43, .mv (.t 3), none, []⟩,
 ⟨1, some 44, .mv (.t 43), none, []⟩,
 ⟨2, some 45, .load (some 2) (.t 5), some (44, true), []⟩,
 ⟨3, some 46, .call true (.f 151) [.t 45, .k (.sc (.int .i64 30)), .k (.sc (.int .i64 2))], some (44, true), []⟩,
 ⟨4, some 47, .pick (.t 44) (.t 46) (.k (.sc (.bool false))), none, []⟩,
 ⟨5, some 3, .mv (.t 47), none, []⟩] false [1, 3, 37, 38, 39])))
 (.region 0 [
 ⟨0, some 48, .bin .add (.t 39) (.k (.sc (.int .i64 1))), none, []⟩,
 ⟨1, some 39, .mv (.t 48), none, []⟩] false [1, 3, 37, 38, 39]))))
def a8n : AC := .loop [1, 3, 37, 38, 39] a6x
def a3T : AC :=
 (.seq (.region 0 [
 ⟨0, some 52, .bin .lss (.t 51) (.k (.sc (.int .i64 3))), none, []⟩] false [1, 3, 50, 51, 52])
 (.seq (.cond (.t 52)
 (.skip)
 (.exit 2))
 (.seq (.block 3 (.seq (.region 1 [
 ⟨0, some 53, .index 3 2 (some 2) (.t 50) (.t 51), none, []⟩,
 ⟨1, some 7, .alloc 0 [.int .i64 0, .int .i64 0], none, []⟩,
 ⟨2, none, .store 2 (.t 7) (.t 53), none, []⟩] false [1, 3, 7, 50, 51])
 (.region 0 [
 ⟨0, some 54, .mv (.t 3), none, []⟩,
 ⟨1, some 55, .mv (.t 54), none, []⟩,
 ⟨2, some 56, .load (some 2) (.t 7), some (55, true), []⟩,
 ⟨3, some 57, .call true (.f 151) [.t 56, .k (.sc (.int .i64 6)), .k (.sc (.int .i64 1))], some (55, true), []⟩,
 ⟨4, some 58, .pick (.t 55) (.t 57) (.k (.sc (.bool false))), none, []⟩,
 ⟨5, some 3, .mv (.t 58), none, []⟩] false [1, 3, 50, 51])))
 (.region 0 [
 ⟨0, some 59, .bin .add (.t 51) (.k (.sc (.int .i64 1))), none, []⟩,
 ⟨1, some 51, .mv (.t 59), none, []⟩] false [1, 3, 50, 51]))))
def a3f : AC := .loop [1, 3, 50, 51] a3T
def a6y : AC :=
 (.seq (.region 0 [
 ⟨0, some 64, .bin .lss (.t 63) (.t 62), none, []⟩] false [1, 3, 61, 62, 63, 64])
 (.seq (.cond (.t 64)
 (.skip)
 (.exit 4))
 (.seq (.block 5 (.seq (.region 1 [
 ⟨0, some 65, .iaddr 3 (.t 61) (.t 63), none, []⟩,
 ⟨1, some 66, .load (some 3) (.t 65), none, []⟩,
 ⟨2, some 9, .alloc 0 [.int .i64 0, .int .i64 0, .int .i64 0], none, []⟩,
 ⟨3, none, .store 3 (.t 9) (.t 66), none, []⟩] false [1, 3, 9, 61, 62, 63])
 (.region 0 [
 ⟨0, some 67, .mv (.t 3), none, []⟩,
 ⟨1, some 68, .mv (.t 67), none, []⟩,
 ⟨2, some 69, .faddr 0 (.t 9), some (68, true), []⟩,
 ⟨3, some 70, .load none (.t 69), some (68, true), []⟩,
 ⟨4, some 71, .call true (.f 150) [.t 70, .k (.sc (.int .i64 0)), .k (.sc (.int .i64 2))], some (68, true), []⟩,
 ⟨5, some 72, .pick (.t 68) (.t 71) (.k (.sc (.bool false))), none, []⟩,
 ⟨6, some 73, .mv (.t 72), none, []⟩,
 ⟨7, some 74, .faddr 1 (.t 9), some (73, true), []⟩,
 ⟨8, some 75, .load none (.t 74), some (73, true), []⟩,
 ⟨9, some 76, .call true (.f 150) [.t 75, .k (.sc (.int .i64 0)), .k (.sc (.int .i64 2))], some (73, true), []⟩,
 ⟨10, some 77, .pick (.t 73) (.t 76) (.k (.sc (.bool false))), none, []⟩,
 ⟨11, some 78, .mv (.t 77), none, []⟩,
 ⟨12, some 79, .faddr 2 (.t 9), some (78, true), []⟩,
 ⟨13, some 80, .load none (.t 79), some (78, true), []⟩,
 ⟨14, some 81, .call true (.f 150) [.t 80, .k (.sc (.int .i64 0)), .k (.sc (.int .i64 3))], some (78, true), []⟩,
 ⟨15, some 82, .pick (.t 78) (.t 81) (.k (.sc (.bool false))), none, []⟩,
 ⟨16, some 3, .mv (.t 82), none, []⟩] false [1, 3, 61, 62, 63])))
 (.region 0 [
 ⟨0, some 83, .bin .add (.t 63) (.k (.sc (.int .i64 1))), none, []⟩,
 ⟨1, some 63, .mv (.t 83), none, []⟩] false [1, 3, 61, 62, 63]))))
def a8o : AC := .loop [1, 3, 61, 62, 63] a6y
def a6z : AC :=
 (.seq (.region 0 [
 ⟨0, some 88, .bin .lss (.t 87) (.t 86), none, []⟩] false [1, 3, 85, 86, 87, 88])
 (.seq (.cond (.t 88)
 (.skip)
 (.exit 6))
 (.seq (.block 7 (.seq (.region 1 [
 ⟨0, some 89, .iaddr 2 (.t 85) (.t 87), none, []⟩,
 ⟨1, some 90, .load (some 2) (.t 89), none, []⟩,
 ⟨2, some 11, .alloc 0 [.int .i64 0, .int .i64 0], none, []⟩,
 ⟨3, none, .store 2 (.t 11) (.t 90), none, []⟩] false [1, 3, 11, 85, 86, 87])
 (.region 0 [
 ⟨0, some 91, .mv (.t 3), none, []⟩,
 ⟨1, some 92, .mv (.t 91), none, []⟩,
 ⟨2, some 93, .load (some 10) (.t 1), some (92, true), []⟩,
 ⟨3, some 94, .faddr 0 (.t 11), some (92, true), []⟩,
 ⟨4, some 95, .load none (.t 94), some (92, true), []⟩,
 ⟨5, some 96, .call true (.f 152) [.t 93, .t 95], some (92, true), []⟩,
 ⟨6, some 97, .pick (.t 92) (.t 96) (.k (.sc (.bool false))), none, []⟩,
 ⟨7, some 98, .mv (.t 97), none, []⟩,
 ⟨8, some 99, .load (some 10) (.t 1), some (98, true), []⟩,
 ⟨9, some 100, .faddr 1 (.t 11), some (98, true), []⟩,
 ⟨10, some 101, .load none (.t 100), some (98, true), []⟩,
 ⟨11, some 102, .call true (.f 153) [.t 99, .t 101], some (98, true), []⟩,
 ⟨12, some 103, .pick (.t 98) (.t 102) (.k (.sc (.bool false))), none, []⟩,
 ⟨13, some 3, .mv (.t 103), none, []⟩] false [1, 3, 85, 86, 87])))
 (.region 0 [
 ⟨0, some 104, .bin .add (.t 87) (.k (.sc (.int .i64 1))), none, []⟩,
 ⟨1, some 87, .mv (.t 104), none, []⟩] false [1, 3, 85, 86, 87]))))
def a8p : AC := .loop [1, 3, 85, 86, 87] a6z
def a6A : AC :=
 (.seq (.region 0 [
 ⟨0, some 109, .bin .lss (.t 108) (.t 107), none, []⟩] false [1, 3, 106, 107, 108, 109])
 (.seq (.cond (.t 109)
 (.skip)
 (.exit 8))
 (.seq (.block 9 (.seq (.region 1 [
 ⟨0, some 110, .iaddr 4 (.t 106) (.t 108), none, []⟩,
 ⟨1, some 111, .load (some 4) (.t 110), none, []⟩,
 ⟨2, some 13, .alloc 0 [.int .i64 0, .int .i64 0, .int .i64 0, .int .i64 0], none, []⟩,
 ⟨3, none, .store 4 (.t 13) (.t 111), none, []⟩] false [1, 3, 13, 106, 107, 108])
 (.region 0 [
 ⟨0, some 112, .mv (.t 3), none, []⟩,
 ⟨1, some 113, .mv (.t 112), none, []⟩,
 ⟨2, some 114, .load (some 10) (.t 1), some (113, true), []⟩,
 ⟨3, some 115, .load (some 4) (.t 13), some (113, true), []⟩,
 ⟨4, some 116, .call true (.f 154) [.t 114, .t 115], some (113, true), []⟩,
 ⟨5, some 117, .pick (.t 113) (.t 116) (.k (.sc (.bool false))), none, []⟩,
 ⟨6, some 3, .mv (.t 117), none, []⟩] false [1, 3, 106, 107, 108])))
 (.region 0 [
 ⟨0, some 118, .bin .add (.t 108) (.k (.sc (.int .i64 1))), none, []⟩,
 ⟨1, some 108, .mv (.t 118), none, []⟩] false [1, 3, 106, 107, 108]))))
def a8q : AC := .loop [1, 3, 106, 107, 108] a6A
def a6w : Fn := ⟨1, 121, [(2, none)],
 (.seq (.region 1 [
 ⟨0, some 1, .box 0 (.t 0), none, []⟩,
 ⟨1, some 2, .mv (.k (.sc (.int .i64 0))), none, []⟩] false [1])
 (.seq (.region 0 [
 ⟨0, some 14, .faddr 0 (.t 1), none, []⟩,
 ⟨1, some 15, .load none (.t 14), none, []⟩,
 ⟨2, some 16, .len 1 (.t 15), none, []⟩,
 ⟨3, some 17, .call true (.f 150) [.t 16, .k (.sc (.int .i64 1)), .k (.sc (.int .i64 3))], none, []⟩,
 ⟨4, some 18, .mv (.t 17), none, []⟩,
 ⟨5, some 19, .faddr 7 (.t 1), some (18, true), []⟩,
 ⟨6, some 20, .load none (.t 19), some (18, true), []⟩,
 ⟨7, some 21, .len 1 (.t 20), some (18, true), []⟩,
 ⟨8, some 22, .call true (.f 150) [.t 21, .k (.sc (.int .i64 1)), .k (.sc (.int .i64 5))], some (18, true), []⟩,
 ⟨9, some 23, .pick (.t 18) (.t 22) (.k (.sc (.bool false))), none, []⟩,
 ⟨10, some 24, .mv (.t 23), none, []⟩,
 ⟨11, some 25, .faddr 8 (.t 1), some (24, true), []⟩,
 ⟨12, some 26, .load none (.t 25), some (24, true), []⟩,
 ⟨13, some 27, .len 1 (.t 26), some (24, true), []⟩,
 ⟨14, some 28, .bin .leq (.t 27) (.k (.sc (.int .i64 6))), some (24, true), []⟩,
 ⟨15, some 29, .pick (.t 24) (.t 28) (.k (.sc (.bool false))), none, []⟩,
 ⟨16, some 30, .mv (.t 29), none, []⟩,
 ⟨17, some 31, .faddr 9 (.t 1), some (30, true), []⟩,
 ⟨18, some 32, .load none (.t 31), some (30, true), []⟩,
 ⟨19, some 33, .len 1 (.t 32), some (30, true), []⟩,
 ⟨20, some 34, .bin .leq (.t 33) (.k (.sc (.int .i64 4))), some (30, true), []⟩,
 ⟨21, some 35, .pick (.t 30) (.t 34) (.k (.sc (.bool false))), none, []⟩,
 ⟨22, some 3, .mv (.t 35), none, []⟩] false [1, 3])
 (.seq (.seq (.region 0 [
 ⟨0, some 36, .faddr 0 (.t 1), none, []⟩,
 ⟨1, some 37, .load none (.t 36), none, []⟩,
 ⟨2, some 38, .len 1 (.t 37), none, []⟩,
 ⟨3, some 39, .mv (.k (.sc (.int .i64 0))), none, []⟩] false [1, 3, 37, 38, 39])
 (.block 0 (a8n)))
 (.seq (.seq (.region 0 [
 ⟨0, some 49, .faddr 1 (.t 1), none, []⟩,
 ⟨1, some 50, .load (some 6) (.t 49), none, []⟩,
 ⟨2, some 51, .mv (.k (.sc (.int .i64 0))), none, []⟩] false [1, 3, 50, 51])
 (.block 2 (a3f)))
 (.seq (.seq (.region 0 [
 ⟨0, some 60, .faddr 7 (.t 1), none, []⟩,
 ⟨1, some 61, .load none (.t 60), none, []⟩,
 ⟨2, some 62, .len 1 (.t 61), none, []⟩,
 ⟨3, some 63, .mv (.k (.sc (.int .i64 0))), none, []⟩] false [1, 3, 61, 62, 63])
 (.block 4 (a8o)))
 (.seq (.seq (.region 0 [
 ⟨0, some 84, .faddr 8 (.t 1), none, []⟩,
 ⟨1, some 85, .load none (.t 84), none, []⟩,
 ⟨2, some 86, .len 1 (.t 85), none, []⟩,
 ⟨3, some 87, .mv (.k (.sc (.int .i64 0))), none, []⟩] false [1, 3, 85, 86, 87])
 (.block 6 (a8p)))
 (.seq (.seq (.region 0 [
 ⟨0, some 105, .faddr 9 (.t 1), none, []⟩,
 ⟨1, some 106, .load none (.t 105), none, []⟩,
 ⟨2, some 107, .len 1 (.t 106), none, []⟩,
 ⟨3, some 108, .mv (.k (.sc (.int .i64 0))), none, []⟩] false [1, 3, 106, 107, 108])
 (.block 8 (a8q)))
 (.seq (.seq (.region 0 [
 ⟨0, some 119, .mv (.t 3), none, []⟩,
 ⟨1, some 120, .un .not (.t 119), none, []⟩] false [120])
 (.cond (.t 120)
 (.seq (.region 0 [
 ⟨0, some 2, .mv (.k (.sc (.int .i64 40))), none, []⟩] false [2])
 (.ret))
 (.skip)))
 (.seq (.region 0 [
 ⟨0, some 2, .mv (.k (.sc (.int .i64 0))), none, []⟩] false [2])
 (.ret)))))))))), false⟩
def a2e : AC :=
 (.seq (.region 0 [
 ⟨0, some 37, .bin .lss (.t 36) (.t 35), none, []⟩] false [1, 4, 9, 34, 35, 36, 37])
 (.seq (.cond (.t 37)
 (.skip)
 (.exit 0))
 (.seq (.block 1 (.seq (.region 1 [
 ⟨0, some 38, .iaddr 4 (.t 34) (.t 36), none, []⟩,
 ⟨1, some 39, .load (some 4) (.t 38), none, []⟩,
 ⟨2, some 11, .alloc 0 [.int .i64 0, .int .i64 0, .int .i64 0, .sl .nil 1 []], none, []⟩,
 ⟨3, none, .store 4 (.t 11) (.t 39), none, []⟩] false [1, 4, 9, 11, 34, 35, 36])
 (.region 0 [
 ⟨0, some 40, .faddr 0 (.t 9), none, []⟩,
 ⟨1, some 41, .load none (.t 40), none, []⟩,
 ⟨2, some 42, .mv (.t 1), none, []⟩,
 ⟨3, some 43, .faddr 0 (.t 11), none, []⟩,
 ⟨4, some 44, .iarr 3 1 (.t 43) (.t 42), none, []⟩,
 ⟨5, some 45, .load none (.t 44), none, []⟩,
 ⟨6, some 46, .bslice 1 1 [.int .i64 0] [(0, .t 45)], none, []⟩,
 ⟨7, some 47, .call true (.f 169) [.t 41, .t 46], none, []⟩,
 ⟨8, some 48, .faddr 1 (.t 9), none, []⟩,
 ⟨9, some 49, .load none (.t 48), none, []⟩,
 ⟨10, some 50, .mv (.t 1), none, []⟩,
 ⟨11, some 51, .faddr 0 (.t 11), none, []⟩,
 ⟨12, some 52, .iarr 3 1 (.t 51) (.t 50), none, []⟩,
 ⟨13, some 53, .load none (.t 52), none, []⟩,
 ⟨14, some 54, .max (.t 49) [.t 53], none, []⟩,
 ⟨15, some 55, .build [.int .i64 0, .int .i64 0] [(0, 1, .t 47), (1, 1, .t 54)], none, []⟩,
 ⟨16, none, .store 2 (.t 9) (.t 55), none, []⟩] true [1, 4, 9, 34, 35, 36])))
 (.region 0 [
 ⟨0, some 56, .bin .add (.t 36) (.k (.sc (.int .i64 1))), none, []⟩,
 ⟨1, some 36, .mv (.t 56), none, []⟩] false [1, 4, 9, 34, 35, 36]))))
def a8r : AC := .loop [1, 4, 9, 34, 35, 36] a2e
def a2i : Fn := ⟨2, 58, [(4, some (some 2)), (5, none)],
 (.seq (.region 2 [
 ⟨0, some 2, .box 0 (.t 0), none, []⟩,
 ⟨1, some 4, .alloc 1 [.int .i64 0, .int .i64 0], none, []⟩,
 ⟨2, some 5, .mv (.k (.sc (.int .i64 0))), none, []⟩] false [1, 2, 4])
 (.seq (.region 1 [
 ⟨0, some 13, .load (some 10) (.t 2), none, []⟩,
 ⟨1, some 14, .mv (.t 1), none, []⟩,
 ⟨2, some 15, .call true (.f 150) [.t 14, .k (.sc (.int .i64 0)), .k (.sc (.int .i64 2))], none, []⟩,
 ⟨3, some 16, .call true (.f 111) [.t 13, .t 15], none, []⟩,
 ⟨4, some 12, .mv (.t 16), none, []⟩,
 ⟨5, some 17, .ext (.t 12) 0, none, []⟩,
 ⟨6, some 18, .ext (.t 12) 1, none, []⟩,
 ⟨7, some 6, .alloc 0 [.sl .nil 2 [], .int .i64 0, .int .i64 0, .int .i64 0, .int .i64 0, .int .i64 0, .int .i64 0, .sl .nil 3 [], .sl .nil 2 [], .sl .nil 4 [], .imap true false [], .sl .nil 4 []], none, [0]⟩,
 ⟨8, none, .store 12 (.t 6) (.t 17), none, []⟩,
 ⟨9, some 7, .mv (.t 18), none, []⟩] true [1, 4, 6, 7])
 (.seq (.seq (.region 0 [
 ⟨0, some 19, .mv (.t 7), none, []⟩,
 ⟨1, some 20, .bin .neq (.t 19) (.k (.sc (.int .i64 0))), none, []⟩] false [1, 4, 6, 7, 20])
 (.cond (.t 20)
 (.seq (.region 0 [
 ⟨0, some 21, .build [.int .i64 0, .int .i64 0] [], none, []⟩,
 ⟨1, some 22, .mv (.t 7), none, []⟩,
 ⟨2, none, .store 2 (.t 4) (.t 21), none, []⟩,
 ⟨3, some 5, .mv (.t 22), none, []⟩] false [4, 5])
 (.ret))
 (.skip)))
 (.seq (.region 0 [
 ⟨0, some 23, .faddr 11 (.t 6), none, []⟩,
 ⟨1, some 24, .load none (.t 23), none, []⟩,
 ⟨2, some 25, .mv (.t 1), none, []⟩,
 ⟨3, some 26, .iaddr 4 (.t 24) (.k (.sc (.int .i64 0))), none, []⟩,
 ⟨4, some 27, .faddr 0 (.t 26), none, []⟩,
 ⟨5, some 28, .iarr 3 1 (.t 27) (.t 25), none, []⟩,
 ⟨6, some 29, .load none (.t 28), none, []⟩,
 ⟨7, some 8, .mv (.t 29), none, []⟩] false [1, 4, 6, 8])
 (.seq (.region 1 [
 ⟨0, some 30, .mv (.t 8), none, []⟩,
 ⟨1, some 31, .mv (.t 8), none, []⟩,
 ⟨2, some 32, .build [.int .i64 0, .int .i64 0] [(0, 1, .t 30), (1, 1, .t 31)], none, []⟩,
 ⟨3, some 9, .alloc 0 [.int .i64 0, .int .i64 0], none, []⟩,
 ⟨4, none, .store 2 (.t 9) (.t 32), none, []⟩] false [1, 4, 6, 9])
 (.seq (.seq (.region 0 [
 ⟨0, some 33, .faddr 11 (.t 6), none, []⟩,
 ⟨1, some 34, .load none (.t 33), none, []⟩,
 ⟨2, some 35, .len 1 (.t 34), none, []⟩,
 ⟨3, some 36, .mv (.k (.sc (.int .i64 0))), none, []⟩] false [1, 4, 9, 34, 35, 36])
 (.block 0 (a8r)))
 (.seq (.region 0 [
 ⟨0, some 57, .load (some 2) (.t 9), none, []⟩,
 ⟨1, none, .store 2 (.t 4) (.t 57), none, []⟩,
 ⟨2, some 5, .mv (.k (.sc (.int .i64 0))), none, []⟩] false [4, 5])
 (.ret)))))))), false⟩
def a2l : AC :=
 (.seq (.region 0 [
 ⟨0, some 44, .bin .lss (.t 43) (.t 42), none, []⟩] false [4, 7, 8, 10, 29, 30, 33, 34, 35, 41, 42, 43, 44])
 (.seq (.cond (.t 44)
 (.skip)
 (.exit 4))
 (.seq (.block 5 (.seq (.region 0 [
 ⟨0, some 45, .iaddr 1 (.t 41) (.t 43), none, []⟩,
 ⟨1, some 46, .load none (.t 45), none, []⟩,
 ⟨2, some 12, .mv (.t 46), none, []⟩] false [4, 7, 8, 10, 12, 29, 30, 33, 34, 35, 41, 42, 43])
 (.region 0 [
 ⟨0, some 47, .mv (.tk 8), none, []⟩,
 ⟨1, some 48, .mv (.t 10), none, []⟩,
 ⟨2, some 49, .mv (.t 10), none, []⟩,
 ⟨3, some 50, .len 1 (.t 49), none, []⟩,
 ⟨4, some 51, .mv (.t 10), none, []⟩,
 ⟨5, some 52, .len 1 (.t 51), none, []⟩,
 ⟨6, some 53, .slice 2 (.t 48) none (some (.t 50)) (some (.t 52)), none, []⟩,
 ⟨7, some 54, .mv (.t 12), none, []⟩,
 ⟨8, some 55, .append 2 (.tk 53) (.t 54), none, []⟩,
 ⟨9, some 56, .bslice 1 1 [.sl .nil 2 []] [(0, .t 55)], none, []⟩,
 ⟨10, some 57, .append 1 (.tk 47) (.t 56), none, []⟩,
 ⟨11, some 8, .mv (.tk 57), none, []⟩] false [4, 7, 8, 10, 29, 30, 33, 34, 35, 41, 42, 43])))
 (.region 0 [
 ⟨0, some 58, .bin .add (.t 43) (.k (.sc (.int .i64 1))), none, []⟩,
 ⟨1, some 43, .mv (.t 58), none, []⟩] false [4, 7, 8, 10, 29, 30, 33, 34, 35, 41, 42, 43]))))
def a8Z : AC := .loop [4, 7, 8, 10, 29, 30, 33, 34, 35, 41, 42, 43] a2l
def a2k : AC :=
 (.seq (.region 0 [
 ⟨0, some 36, .bin .lss (.t 35) (.t 34), none, []⟩] false [4, 7, 8, 29, 30, 33, 34, 35, 36])
 (.seq (.cond (.t 36)
 (.skip)
 (.exit 2))
 (.seq (.block 3 (.seq (.region 0 [
 ⟨0, some 37, .iaddr 1 (.t 33) (.t 35), none, []⟩,
 ⟨1, some 38, .load none (.t 37), none, []⟩,
 ⟨2, some 10, .mv (.t 38), none, []⟩] false [4, 7, 8, 10, 29, 30, 33, 34, 35])
 (.seq (.region 0 [
 ⟨0, some 39, .load (some 12) (.t 4), none, []⟩,
 ⟨1, some 40, .mv (.t 7), none, []⟩,
 ⟨2, some 41, .call true (.f 127) [.t 39, .t 40], none, []⟩,
 ⟨3, some 42, .len 1 (.t 41), none, []⟩,
 ⟨4, some 43, .mv (.k (.sc (.int .i64 0))), none, []⟩] false [4, 7, 8, 10, 29, 30, 33, 34, 35, 41, 42, 43])
 (.block 4 (a8Z)))))
 (.region 0 [
 ⟨0, some 59, .bin .add (.t 35) (.k (.sc (.int .i64 1))), none, []⟩,
 ⟨1, some 35, .mv (.t 59), none, []⟩] false [4, 7, 8, 29, 30, 33, 34, 35]))))
def a8Y : AC := .loop [4, 7, 8, 29, 30, 33, 34, 35] a2k
def a6W : AC :=
 (.seq (.region 0 [
 ⟨0, some 31, .bin .lss (.t 30) (.t 29), none, []⟩] false [4, 6, 29, 30, 31])
 (.seq (.cond (.t 31)
 (.skip)
 (.exit 0))
 (.seq (.block 1 (.seq (.region 0 [
 ⟨0, some 32, .mv (.t 30), none, []⟩,
 ⟨1, some 7, .mv (.t 32), none, []⟩] false [4, 6, 7, 29, 30])
 (.seq (.region 0 [
 ⟨0, some 8, .mv (.k (.sc (.sl .nil 1 []))), none, []⟩] false [4, 6, 7, 8, 29, 30])
 (.seq (.seq (.region 0 [
 ⟨0, some 33, .mv (.t 6), none, []⟩,
 ⟨1, some 34, .len 1 (.t 33), none, []⟩,
 ⟨2, some 35, .mv (.k (.sc (.int .i64 0))), none, []⟩] false [4, 7, 8, 29, 30, 33, 34, 35])
 (.block 2 (a8Y)))
 (.region 0 [
 ⟨0, some 60, .mv (.t 8), none, []⟩,
 ⟨1, some 6, .mv (.t 60), none, []⟩] false [4, 6, 29, 30])))))
 (.region 0 [
 ⟨0, some 61, .bin .add (.t 30) (.k (.sc (.int .i64 1))), none, []⟩,
 ⟨1, some 30, .mv (.t 61), none, []⟩] false [4, 6, 29, 30]))))
def a8X : AC := .loop [4, 6, 29, 30] a6W
def a0s : AC :=
 (.seq (.region 0 [
 ⟨0, some 66, .bin .lss (.t 65) (.t 64), none, []⟩] false [4, 13, 14, 15, 63, 64, 65, 66])
 (.seq (.cond (.t 66)
 (.skip)
 (.exit 6))
 (.seq (.block 7 (.seq (.region 0 [
 ⟨0, some 67, .iaddr 1 (.t 63) (.t 65), none, []⟩,
 ⟨1, some 68, .load none (.t 67), none, []⟩,
 ⟨2, some 17, .mv (.t 68), none, []⟩] false [4, 13, 14, 15, 17, 63, 64, 65])
 (.seq (.seq (.region 0 [
 ⟨0, some 69, .mv (.t 14), none, []⟩,
 ⟨1, some 70, .mv (.t 69), none, []⟩,
 ⟨2, some 71, .mv (.t 17), some (70, true), []⟩,
 ⟨3, some 72, .len 1 (.t 71), some (70, true), []⟩,
 ⟨4, some 73, .mv (.t 13), some (70, true), []⟩,
 ⟨5, some 74, .len 1 (.t 73), some (70, true), []⟩,
 ⟨6, some 75, .bin .gtr (.t 72) (.t 74), some (70, true), []⟩,
 ⟨7, some 76, .pick (.t 70) (.t 75) (.k (.sc (.bool false))), none, []⟩] false [4, 13, 14, 15, 17, 63, 64, 65, 76])
 (.cond (.t 76)
 (.exit 7)
 (.skip)))
 (.seq (.region 0 [
 ⟨0, some 77, .mv (.t 17), none, []⟩,
 ⟨1, some 78, .call false (.f 231) [.t 77], none, []⟩,
 ⟨2, some 17, .mv (.t 78), none, []⟩] false [4, 13, 14, 15, 17, 63, 64, 65])
 (.seq (.region 0 [
 ⟨0, some 79, .mv (.t 17), none, []⟩,
 ⟨1, some 80, .call false (.f 130) [.t 79, .f 131], none, []⟩] false [4, 13, 14, 15, 17, 63, 64, 65])
 (.frzc 17 (.seq (.region 0 [
 ⟨0, some 81, .mv (.t 14), none, []⟩,
 ⟨1, some 82, .un .not (.t 81), none, []⟩,
 ⟨2, some 83, .mv (.t 82), none, []⟩,
 ⟨3, some 84, .faddr 0 (.t 15), some (83, false), []⟩,
 ⟨4, some 85, .load none (.t 84), some (83, false), []⟩,
 ⟨5, some 86, .mv (.t 17), some (83, false), []⟩,
 ⟨6, some 87, .mv (.t 13), some (83, false), []⟩,
 ⟨7, some 88, .call true (.t 85) [.t 86, .t 87], some (83, false), []⟩,
 ⟨8, some 89, .pick (.t 83) (.k (.sc (.bool true))) (.t 88), none, []⟩,
 ⟨9, some 90, .mv (.t 89), none, []⟩,
 ⟨10, some 91, .load (some 12) (.t 4), some (90, true), []⟩,
 ⟨11, some 92, .faddr 10 (.t 4), some (90, true), []⟩,
 ⟨12, some 93, .load none (.t 92), some (90, true), []⟩,
 ⟨13, some 94, .mv (.t 17), some (90, true), []⟩,
 ⟨14, some 95, .call true (.f 121) [.t 93, .t 94], some (90, true), []⟩,
 ⟨15, some 96, .call true (.f 123) [.t 91, .t 95], some (90, true), []⟩,
 ⟨16, some 97, .pick (.t 90) (.t 96) (.k (.sc (.bool false))), none, []⟩] true [4, 13, 14, 15, 17, 63, 64, 65, 97])
 (.cond (.t 97)
 (.region 0 [
 ⟨0, some 98, .mv (.t 17), none, []⟩,
 ⟨1, some 13, .mv (.t 98), none, []⟩,
 ⟨2, some 14, .mv (.k (.sc (.bool true))), none, []⟩] false [4, 13, 14, 15, 63, 64, 65])
 (.skip)))))))))
 (.region 0 [
 ⟨0, some 99, .bin .add (.t 65) (.k (.sc (.int .i64 1))), none, []⟩,
 ⟨1, some 65, .mv (.t 99), none, []⟩] false [4, 13, 14, 15, 63, 64, 65]))))
def a9a : AC := .loop [4, 13, 14, 15, 63, 64, 65] a0s
def a4U : Fn := ⟨1, 108, [(2, none), (3, none)],
 (.seq (.region 1 [
 ⟨0, some 1, .box 0 (.t 0), none, []⟩,
 ⟨1, some 2, .mv (.k (.sc (.sl .nil 2 []))), none, []⟩,
 ⟨2, some 3, .mv (.k (.sc (.int .i64 0))), none, []⟩] false [1])
 (.seq (.region 1 [
 ⟨0, some 19, .load (some 10) (.t 1), none, []⟩,
 ⟨1, some 20, .call true (.f 111) [.t 19, .k (.sc (.bool true))], none, []⟩,
 ⟨2, some 18, .mv (.t 20), none, []⟩,
 ⟨3, some 21, .ext (.t 18) 0, none, []⟩,
 ⟨4, some 22, .ext (.t 18) 1, none, []⟩,
 ⟨5, some 4, .alloc 0 [.sl .nil 2 [], .int .i64 0, .int .i64 0, .int .i64 0, .int .i64 0, .int .i64 0, .int .i64 0, .sl .nil 3 [], .sl .nil 2 [], .sl .nil 4 [], .imap true false [], .sl .nil 4 []], none, []⟩,
 ⟨6, none, .store 12 (.t 4) (.t 21), none, []⟩,
 ⟨7, some 5, .mv (.t 22), none, []⟩] false [1, 4, 5])
 (.seq (.seq (.region 0 [
 ⟨0, some 23, .mv (.t 5), none, []⟩,
 ⟨1, some 24, .bin .neq (.t 23) (.k (.sc (.int .i64 0))), none, []⟩] false [1, 4, 5, 24])
 (.cond (.t 24)
 (.seq (.region 0 [
 ⟨0, some 25, .mv (.t 5), none, []⟩,
 ⟨1, some 2, .mv (.k (.sc (.sl .nil 2 []))), none, []⟩,
 ⟨2, some 3, .mv (.t 25), none, []⟩] false [2, 3])
 (.ret))
 (.skip)))
 (.seq (.region 0 [
 ⟨0, some 26, .bslice 1 1 [.sl .nil 2 []] [(0, .k (.sc (.sl .nil 2 [])))], none, []⟩,
 ⟨1, some 6, .mv (.t 26), none, []⟩] false [1, 4, 6])
 (.seq (.seq (.region 0 [
 ⟨0, some 27, .faddr 0 (.t 1), none, []⟩,
 ⟨1, some 28, .load none (.t 27), none, []⟩,
 ⟨2, some 29, .len 1 (.t 28), none, []⟩,
 ⟨3, some 30, .mv (.k (.sc (.int .i64 0))), none, []⟩] false [4, 6, 29, 30])
 (.block 0 (a8X)))
 (.seq (.region 0 [
 ⟨0, some 13, .mv (.k (.sc (.sl .nil 2 []))), none, []⟩] false [4, 6, 13])
 (.seq (.region 1 [
 ⟨0, some 62, .call true (.f 128) [], none, []⟩,
 ⟨1, some 15, .alloc 0 [.nilf], none, []⟩,
 ⟨2, some 14, .mv (.k (.sc (.bool false))), none, []⟩,
 ⟨3, none, .store 1 (.t 15) (.t 62), none, []⟩] false [4, 6, 13, 14, 15])
 (.seq (.seq (.region 0 [
 ⟨0, some 63, .mv (.t 6), none, []⟩,
 ⟨1, some 64, .len 1 (.t 63), none, []⟩,
 ⟨2, some 65, .mv (.k (.sc (.int .i64 0))), none, []⟩] false [4, 13, 14, 15, 63, 64, 65])
 (.block 6 (a9a)))
 (.seq (.seq (.region 0 [
 ⟨0, some 100, .mv (.t 14), none, []⟩,
 ⟨1, some 101, .un .not (.t 100), none, []⟩] false [13, 101])
 (.cond (.t 101)
 (.seq (.region 0 [
 ⟨0, some 2, .mv (.k (.sc (.sl .nil 2 []))), none, []⟩,
 ⟨1, some 3, .mv (.k (.sc (.int .i64 4))), none, []⟩] false [2, 3])
 (.ret))
 (.skip)))
 (.seq (.region 0 [
 ⟨0, some 102, .mv (.t 13), none, []⟩,
 ⟨1, some 103, .mv (.t 13), none, []⟩,
 ⟨2, some 104, .len 1 (.t 103), none, []⟩,
 ⟨3, some 105, .mv (.t 13), none, []⟩,
 ⟨4, some 106, .len 1 (.t 105), none, []⟩,
 ⟨5, some 107, .slice 2 (.t 102) none (some (.t 104)) (some (.t 106)), none, []⟩,
 ⟨6, some 2, .mv (.t 107), none, []⟩,
 ⟨7, some 3, .mv (.k (.sc (.int .i64 0))), none, []⟩] false [2, 3])
 (.ret))))))))))), false⟩
def a4A : Fn := ⟨1, 6, [(2, some (some 2))],
 (.seq (.region 1 [
 ⟨0, some 2, .alloc 0 [.int .i64 0, .int .i64 0], none, []⟩] false [0, 2])
 (.seq (.region 0 [
 ⟨0, some 3, .mv (.t 0), none, []⟩,
 ⟨1, some 4, .mv (.t 0), none, []⟩,
 ⟨2, some 5, .build [.int .i64 0, .int .i64 0] [(0, 1, .t 3), (1, 1, .t 4)], none, []⟩,
 ⟨3, none, .store 2 (.t 2) (.t 5), none, []⟩] false [2])
 (.ret))), false⟩
def a4W : Fn := ⟨0, 2, [(0, some (some 10))],
 (.seq (.region 1 [
 ⟨0, some 0, .alloc 0 [.sl .nil 2 [], .int .i64 0, .int .i64 0, .int .i64 0, .int .i64 0, .int .i64 0, .int .i64 0, .sl .nil 3 [], .sl .nil 2 [], .sl .nil 4 []], none, []⟩] false [0])
 (.seq (.region 0 [
 ⟨0, some 1, .call true (.f 168) [.k (.sc (.int .i64 1)), .k (.sc (.sl .nil 4 []))], none, []⟩,
 ⟨1, none, .store 10 (.t 0) (.t 1), none, []⟩] false [0])
 (.ret))), false⟩
def a4s : Fn := ⟨2, 20, [(4, some (some 10))],
 (.seq (.region 1 [
 ⟨0, some 4, .alloc 0 [.sl .nil 2 [], .int .i64 0, .int .i64 0, .int .i64 0, .int .i64 0, .int .i64 0, .int .i64 0, .sl .nil 3 [], .sl .nil 2 [], .sl .nil 4 []], none, []⟩] false [0, 1, 4])
 (.seq (.region 0 [
 ⟨0, some 5, .call true (.f 33) [.k (.sc (.int .i64 10)), .k (.sc (.int .i64 11))], none, []⟩,
 ⟨1, some 6, .call true (.f 30) [.k (.sc (.int .i64 8))], none, []⟩,
 ⟨2, some 7, .bslice 2 2 [.int .i64 0, .int .i64 0] [(0, .t 5), (1, .t 6)], none, []⟩,
 ⟨3, some 8, .call true (.f 33) [.k (.sc (.int .i64 2)), .k (.sc (.int .i64 3))], none, []⟩,
 ⟨4, some 9, .call true (.f 30) [.k (.sc (.int .i64 4))], none, []⟩,
 ⟨5, some 10, .call true (.f 33) [.k (.sc (.int .i64 3)), .k (.sc (.int .i64 4))], none, []⟩,
 ⟨6, some 11, .build [.int .i64 0, .int .i64 0, .int .i64 0, .int .i64 0, .int .i64 0, .int .i64 0] [(0, 2, .t 8), (2, 2, .t 9), (4, 2, .t 10)], none, []⟩,
 ⟨7, some 12, .build [.int .i64 0, .int .i64 0, .int .i64 0] [(0, 1, .k (.sc (.int .i64 1))), (1, 1, .k (.sc (.int .i64 1))), (2, 1, .k (.sc (.int .i64 1)))], none, []⟩,
 ⟨8, some 13, .mv (.t 0), none, []⟩,
 ⟨9, some 14, .build [.int .i64 0, .int .i64 0, .int .i64 0] [(1, 1, .k (.sc (.int .i64 1))), (2, 1, .t 13)], none, []⟩,
 ⟨10, some 15, .build [.int .i64 0, .int .i64 0, .int .i64 0] [(1, 1, .k (.sc (.int .i64 1))), (2, 1, .k (.sc (.int .i64 1)))], none, []⟩,
 ⟨11, some 16, .build [.int .i64 0, .int .i64 0, .int .i64 0] [(0, 1, .k (.sc (.int .i64 2))), (2, 1, .k (.sc (.int .i64 1)))], none, []⟩,
 ⟨12, some 17, .bslice 3 4 [.int .i64 0, .int .i64 0, .int .i64 0] [(0, .t 12), (1, .t 14), (2, .t 15), (3, .t 16)], none, []⟩,
 ⟨13, some 18, .mv (.t 1), none, []⟩,
 ⟨14, some 19, .build [.sl .nil 2 [], .int .i64 0, .int .i64 0, .int .i64 0, .int .i64 0, .int .i64 0, .int .i64 0, .sl .nil 3 [], .sl .nil 2 [], .sl .nil 4 []] [(0, 1, .t 7), (1, 6, .t 11), (7, 1, .t 17), (9, 1, .t 18)], none, []⟩,
 ⟨15, none, .store 10 (.t 4) (.t 19), none, []⟩] false [4])
 (.ret))), false⟩
def a3N : Fn := ⟨2, 8, [(4, some (some 2))],
 (.seq (.region 1 [
 ⟨0, some 4, .alloc 0 [.int .i64 0, .int .i64 0], none, []⟩] false [0, 1, 4])
 (.seq (.region 0 [
 ⟨0, some 5, .mv (.t 0), none, []⟩,
 ⟨1, some 6, .mv (.t 1), none, []⟩,
 ⟨2, some 7, .build [.int .i64 0, .int .i64 0] [(0, 1, .t 5), (1, 1, .t 6)], none, []⟩,
 ⟨3, none, .store 2 (.t 4) (.t 7), none, []⟩] false [4])
 (.ret))), false⟩
def a6k : AC :=
 (.seq (.seq (.region 0 [
 ⟨0, some 5, .mv (.t 4), none, []⟩,
 ⟨1, some 6, .bin .add (.t 5) (.k (.sc (.int .i64 1))), none, []⟩,
 ⟨2, some 7, .mv (.t 0), none, []⟩,
 ⟨3, some 8, .len 1 (.t 7), none, []⟩,
 ⟨4, some 9, .bin .lss (.t 6) (.t 8), none, []⟩] false [0, 3, 4, 9])
 (.cond (.t 9)
 (.skip)
 (.exit 0)))
 (.seq (.block 1 (.region 0 [
 ⟨0, some 12, .mv (.tk 3), none, []⟩,
 ⟨1, some 13, .mv (.t 0), none, []⟩,
 ⟨2, some 14, .mv (.t 4), none, []⟩,
 ⟨3, some 15, .iaddr 1 (.t 13) (.t 14), none, []⟩,
 ⟨4, some 16, .load none (.t 15), none, []⟩,
 ⟨5, some 17, .mv (.t 0), none, []⟩,
 ⟨6, some 18, .mv (.t 4), none, []⟩,
 ⟨7, some 19, .bin .add (.t 18) (.k (.sc (.int .i64 1))), none, []⟩,
 ⟨8, some 20, .iaddr 1 (.t 17) (.t 19), none, []⟩,
 ⟨9, some 21, .load none (.t 20), none, []⟩,
 ⟨10, some 22, .build [.int .i64 0, .int .i64 0] [(0, 1, .t 16), (1, 1, .t 21)], none, []⟩,
 ⟨11, some 23, .bslice 2 1 [.int .i64 0, .int .i64 0] [(0, .t 22)], none, []⟩,
 ⟨12, some 24, .append 2 (.tk 12) (.t 23), none, []⟩,
 ⟨13, some 3, .mv (.tk 24), none, []⟩] true [0, 3, 4]))
 (.region 0 [
 ⟨0, some 10, .mv (.t 4), none, []⟩,
 ⟨1, some 11, .bin .add (.t 10) (.k (.sc (.int .i64 2))), none, []⟩,
 ⟨2, some 4, .mv (.t 11), none, []⟩] false [0, 3, 4])))
def a6l : AC := .loop [0, 3, 4] a6k
def a4c : Fn := ⟨1, 26, [(2, none)],
 (.seq (.region 0 [
 ⟨0, some 2, .mv (.k (.sc (.sl .nil 2 []))), none, []⟩] false [0])
 (.seq (.region 0 [
 ⟨0, some 3, .mv (.k (.sc (.sl .nil 2 []))), none, []⟩] false [0, 3])
 (.seq (.seq (.region 0 [
 ⟨0, some 4, .mv (.k (.sc (.int .i64 0))), none, []⟩] false [0, 3, 4])
 (.block 0 (a6l)))
 (.seq (.region 0 [
 ⟨0, some 25, .mv (.t 3), none, []⟩,
 ⟨1, some 2, .mv (.t 25), none, []⟩] false [2])
 (.ret))))), false⟩
def a4z : Fn := ⟨0, 5, [(0, some (some 10))],
 (.seq (.region 1 [
 ⟨0, some 0, .alloc 0 [.sl .nil 2 [], .int .i64 0, .int .i64 0, .int .i64 0, .int .i64 0, .int .i64 0, .int .i64 0, .sl .nil 3 [], .sl .nil 2 [], .sl .nil 4 []], none, []⟩] false [0])
 (.seq (.region 0 [
 ⟨0, some 1, .build [.int .i64 0, .int .i64 0, .int .i64 0, .int .i64 0] [(2, 1, .k (.sc (.int .i64 3)))], none, []⟩,
 ⟨1, some 2, .build [.int .i64 0, .int .i64 0, .int .i64 0, .int .i64 0] [(0, 1, .k (.sc (.int .i64 1))), (2, 1, .k (.sc (.int .i64 2)))], none, []⟩,
 ⟨2, some 3, .bslice 4 2 [.int .i64 0, .int .i64 0, .int .i64 0, .int .i64 0] [(0, .t 1), (1, .t 2)], none, []⟩,
 ⟨3, some 4, .call true (.f 168) [.k (.sc (.int .i64 1)), .t 3], none, []⟩,
 ⟨4, none, .store 10 (.t 0) (.t 4), none, []⟩] false [0])
 (.ret))), false⟩
def a4e : Fn := ⟨0, 4, [(0, some (some 10))],
 (.seq (.region 1 [
 ⟨0, some 0, .alloc 0 [.sl .nil 2 [], .int .i64 0, .int .i64 0, .int .i64 0, .int .i64 0, .int .i64 0, .int .i64 0, .sl .nil 3 [], .sl .nil 2 [], .sl .nil 4 []], none, []⟩] false [0])
 (.seq (.region 0 [
 ⟨0, some 1, .build [.int .i64 0, .int .i64 0, .int .i64 0, .int .i64 0] [(2, 1, .k (.sc (.int .i64 3)))], none, []⟩,
 ⟨1, some 2, .bslice 4 1 [.int .i64 0, .int .i64 0, .int .i64 0, .int .i64 0] [(0, .t 1)], none, []⟩,
 ⟨2, some 3, .call true (.f 168) [.k (.sc (.int .i64 1)), .t 2], none, []⟩,
 ⟨3, none, .store 10 (.t 0) (.t 3), none, []⟩] false [0])
 (.ret))), false⟩
def a1l : AC :=
 (.seq (.seq (.region 0 [
 ⟨0, some 12, .mv (.t 5), none, []⟩,
 ⟨1, some 13, .mv (.t 12), none, []⟩,
 ⟨2, some 14, .mv (.t 6), some (13, true), []⟩,
 ⟨3, some 15, .mv (.t 0), some (13, true), []⟩,
 ⟨4, some 16, .len 1 (.t 15), some (13, true), []⟩,
 ⟨5, some 17, .bin .lss (.t 14) (.t 16), some (13, true), []⟩,
 ⟨6, some 18, .pick (.t 13) (.t 17) (.k (.sc (.bool false))), none, []⟩] false [0, 1, 5, 6, 18])
 (.cond (.t 18)
 (.skip)
 (.exit 0)))
 (.seq (.block 1 (.region 0 [
 ⟨0, some 21, .mv (.t 0), none, []⟩,
 ⟨1, some 22, .mv (.t 6), none, []⟩,
 ⟨2, some 23, .iaddr 2 (.t 21) (.t 22), none, []⟩,
 ⟨3, some 24, .load (some 2) (.t 23), none, []⟩,
 ⟨4, some 25, .mv (.t 1), none, []⟩,
 ⟨5, some 26, .mv (.t 6), none, []⟩,
 ⟨6, some 27, .iaddr 2 (.t 25) (.t 26), none, []⟩,
 ⟨7, some 28, .load (some 2) (.t 27), none, []⟩,
 ⟨8, some 29, .eqf false ⟨true, [1, 1]⟩ (.t 24) (.t 28), none, []⟩,
 ⟨9, some 5, .mv (.t 29), none, []⟩] true [0, 1, 5, 6]))
 (.region 0 [
 ⟨0, some 19, .mv (.t 6), none, []⟩,
 ⟨1, some 20, .bin .add (.t 19) (.k (.sc (.int .i64 1))), none, []⟩,
 ⟨2, some 6, .mv (.t 20), none, []⟩] false [0, 1, 5, 6])))
def a6I : AC := .loop [0, 1, 5, 6] a1l
def a3x : Fn := ⟨2, 31, [(4, none)],
 (.seq (.region 0 [
 ⟨0, some 4, .mv (.k (.sc (.bool false))), none, []⟩] false [0, 1])
 (.seq (.region 0 [
 ⟨0, some 7, .mv (.t 0), none, []⟩,
 ⟨1, some 8, .len 1 (.t 7), none, []⟩,
 ⟨2, some 9, .mv (.t 1), none, []⟩,
 ⟨3, some 10, .len 1 (.t 9), none, []⟩,
 ⟨4, some 11, .bin .eql (.t 8) (.t 10), none, []⟩,
 ⟨5, some 5, .mv (.t 11), none, []⟩] false [0, 1, 5])
 (.seq (.seq (.region 0 [
 ⟨0, some 6, .mv (.k (.sc (.int .i64 0))), none, []⟩] false [0, 1, 5, 6])
 (.block 0 (a6I)))
 (.seq (.region 0 [
 ⟨0, some 30, .mv (.t 5), none, []⟩,
 ⟨1, some 4, .mv (.t 30), none, []⟩] false [4])
 (.ret))))), false⟩
def a3C : Fn := ⟨2, 25, [(4, some (some 12)), (5, none)],
 (.seq (.region 2 [
 ⟨0, some 2, .box 0 (.t 0), none, []⟩,
 ⟨1, some 4, .alloc 1 [.sl .nil 2 [], .int .i64 0, .int .i64 0, .int .i64 0, .int .i64 0, .int .i64 0, .int .i64 0, .sl .nil 3 [], .sl .nil 2 [], .sl .nil 4 [], .imap true false [], .sl .nil 4 []], none, []⟩,
 ⟨2, some 5, .mv (.k (.sc (.int .i64 0))), none, []⟩] false [1, 2, 4])
 (.seq (.seq (.region 0 [
 ⟨0, some 8, .load (some 10) (.t 2), none, []⟩,
 ⟨1, some 9, .call true (.f 117) [.t 8], none, []⟩,
 ⟨2, some 6, .mv (.t 9), none, []⟩] false [1, 2, 4, 6])
 (.seq (.region 0 [
 ⟨0, some 10, .mv (.t 6), none, []⟩,
 ⟨1, some 11, .bin .neq (.t 10) (.k (.sc (.int .i64 0))), none, []⟩] false [1, 2, 4, 6, 11])
 (.cond (.t 11)
 (.seq (.region 0 [
 ⟨0, some 12, .build [.sl .nil 2 [], .int .i64 0, .int .i64 0, .int .i64 0, .int .i64 0, .int .i64 0, .int .i64 0, .sl .nil 3 [], .sl .nil 2 [], .sl .nil 4 [], .imap true false [], .sl .nil 4 []] [], none, []⟩,
 ⟨1, some 13, .mv (.t 6), none, []⟩,
 ⟨2, none, .store 12 (.t 4) (.t 12), none, []⟩,
 ⟨3, some 5, .mv (.t 13), none, []⟩] false [4, 5])
 (.ret))
 (.skip))))
 (.seq (.seq (.region 0 [
 ⟨0, some 14, .mv (.t 1), none, []⟩,
 ⟨1, some 15, .un .not (.t 14), none, []⟩] false [2, 4, 15])
 (.cond (.t 15)
 (.seq (.region 0 [
 ⟨0, some 16, .build [.sl .nil 2 [], .int .i64 0, .int .i64 0, .int .i64 0, .int .i64 0, .int .i64 0, .int .i64 0, .sl .nil 3 [], .sl .nil 2 [], .sl .nil 4 [], .imap true false [], .sl .nil 4 []] [], none, []⟩,
 ⟨1, none, .store 12 (.t 4) (.t 16), none, []⟩,
 ⟨2, some 5, .mv (.k (.sc (.int .i64 41))), none, []⟩] false [4, 5])
 (.ret))
 (.skip)))
 (.seq (.region 1 [
 ⟨0, some 17, .load (some 10) (.t 2), none, []⟩,
 ⟨1, some 18, .call true (.f 144) [.t 17, .k (.sc (.sl .nil 1 []))], none, []⟩,
 ⟨2, some 7, .alloc 0 [.sl .nil 2 [], .int .i64 0, .int .i64 0, .int .i64 0, .int .i64 0, .int .i64 0, .int .i64 0, .sl .nil 3 [], .sl .nil 2 [], .sl .nil 4 [], .imap true false [], .sl .nil 4 []], none, []⟩,
 ⟨3, none, .store 12 (.t 7) (.t 18), none, []⟩] false [4, 7])
 (.seq (.seq (.region 0 [
 ⟨0, some 19, .faddr 11 (.t 7), none, []⟩,
 ⟨1, some 20, .load none (.t 19), none, []⟩,
 ⟨2, some 21, .len 1 (.t 20), none, []⟩,
 ⟨3, some 22, .bin .eql (.t 21) (.k (.sc (.int .i64 0))), none, []⟩] false [4, 7, 22])
 (.cond (.t 22)
 (.seq (.region 0 [
 ⟨0, some 23, .load (some 12) (.t 7), none, []⟩,
 ⟨1, none, .store 12 (.t 4) (.t 23), none, []⟩,
 ⟨2, some 5, .mv (.k (.sc (.int .i64 42))), none, []⟩] false [4, 5])
 (.ret))
 (.skip)))
 (.seq (.region 0 [
 ⟨0, some 24, .load (some 12) (.t 7), none, []⟩,
 ⟨1, none, .store 12 (.t 4) (.t 24), none, []⟩,
 ⟨2, some 5, .mv (.k (.sc (.int .i64 0))), none, []⟩] false [4, 5])
 (.ret))))))), false⟩
def a5N : Fn := ⟨2, 25, [(4, none)],
 (.seq (.region 2 [
 ⟨0, some 2, .box 0 (.t 0), none, []⟩,
 ⟨1, some 3, .box 1 (.t 1), none, []⟩,
 ⟨2, some 4, .mv (.k (.sc (.bool false))), none, []⟩] false [2, 3])
 (.seq (.region 0 [
 ⟨0, some 5, .load (some 10) (.t 2), none, []⟩,
 ⟨1, some 6, .faddr 0 (.t 3), none, []⟩,
 ⟨2, some 7, .load none (.t 6), none, []⟩,
 ⟨3, some 8, .call true (.f 153) [.t 5, .t 7], none, []⟩,
 ⟨4, some 9, .mv (.t 8), none, []⟩,
 ⟨5, some 10, .load (some 10) (.t 2), some (9, true), []⟩,
 ⟨6, some 11, .faddr 1 (.t 3), some (9, true), []⟩,
 ⟨7, some 12, .load none (.t 11), some (9, true), []⟩,
 ⟨8, some 13, .call true (.f 152) [.t 10, .t 12], some (9, true), []⟩,
 ⟨9, some 14, .pick (.t 9) (.t 13) (.k (.sc (.bool false))), none, []⟩,
 ⟨10, some 15, .mv (.t 14), none, []⟩,
 ⟨11, some 16, .faddr 2 (.t 3), some (15, true), []⟩,
 ⟨12, some 17, .load none (.t 16), some (15, true), []⟩,
 ⟨13, some 18, .call true (.f 150) [.t 17, .k (.sc (.int .i64 (-150))), .k (.sc (.int .i64 30))], some (15, true), []⟩,
 ⟨14, some 19, .pick (.t 15) (.t 18) (.k (.sc (.bool false))), none, []⟩,
 ⟨15, some 20, .mv (.t 19), none, []⟩,
 ⟨16, some 21, .faddr 3 (.t 3), some (20, true), []⟩,
 ⟨17, some 22, .load none (.t 21), some (20, true), []⟩,
 ⟨18, some 23, .call true (.f 150) [.t 22, .k (.sc (.int .i64 0)), .k (.sc (.int .i64 3))], some (20, true), []⟩,
 ⟨19, some 24, .pick (.t 20) (.t 23) (.k (.sc (.bool false))), none, []⟩,
 ⟨20, some 4, .mv (.t 24), none, []⟩] false [4])
 (.ret))), false⟩
def a1Q : AC :=
 (.seq (.seq (.region 0 [
 ⟨0, some 36, .mv (.t 12), none, []⟩,
 ⟨1, some 37, .faddr 1 (.t 10), none, []⟩,
 ⟨2, some 38, .load none (.t 37), none, []⟩,
 ⟨3, some 39, .bin .leq (.t 36) (.t 38), none, []⟩] false [3, 5, 6, 7, 8, 9, 10, 11, 12, 27, 28, 29, 39])
 (.cond (.t 39)
 (.skip)
 (.exit 4)))
 (.seq (.block 5 (.seq (.region 0 [
 ⟨0, some 42, .load none (.t 6), none, []⟩,
 ⟨1, some 43, .load (some 3) (.t 7), none, []⟩,
 ⟨2, some 44, .mv (.t 9), none, []⟩,
 ⟨3, some 45, .mv (.t 12), none, []⟩,
 ⟨4, some 46, .load none (.t 3), none, []⟩,
 ⟨5, some 47, .call true (.t 42) [.t 43, .t 44, .t 45, .t 46], none, []⟩] false [3, 5, 6, 7, 8, 9, 10, 11, 12, 27, 28, 29, 47])
 (.cond (.t 47)
 (.region 0 [
 ⟨0, some 48, .mv (.tk 11), none, []⟩,
 ⟨1, some 49, .mv (.t 12), none, []⟩,
 ⟨2, some 50, .bslice 1 1 [.int .i64 0] [(0, .t 49)], none, []⟩,
 ⟨3, some 51, .append 1 (.tk 48) (.t 50), none, []⟩,
 ⟨4, some 11, .mv (.tk 51), none, []⟩] false [3, 5, 6, 7, 8, 9, 10, 11, 12, 27, 28, 29])
 (.skip))))
 (.region 0 [
 ⟨0, some 40, .mv (.t 12), none, []⟩,
 ⟨1, some 41, .bin .add (.t 40) (.k (.sc (.int .i64 1))), none, []⟩,
 ⟨2, some 12, .mv (.t 41), none, []⟩] false [3, 5, 6, 7, 8, 9, 10, 11, 12, 27, 28, 29])))
def a8c : AC := .loop [3, 5, 6, 7, 8, 9, 10, 11, 12, 27, 28, 29] a1Q
def a1P : AC :=
 (.seq (.region 0 [
 ⟨0, some 30, .bin .lss (.t 29) (.t 28), none, []⟩] false [3, 5, 6, 7, 8, 27, 28, 29, 30])
 (.seq (.cond (.t 30)
 (.skip)
 (.exit 2))
 (.seq (.block 3 (.seq (.region 1 [
 ⟨0, some 31, .mv (.t 29), none, []⟩,
 ⟨1, some 32, .iaddr 2 (.t 27) (.t 29), none, []⟩,
 ⟨2, some 33, .load (some 2) (.t 32), none, []⟩,
 ⟨3, some 10, .alloc 0 [.int .i64 0, .int .i64 0], none, []⟩,
 ⟨4, some 9, .mv (.t 31), none, []⟩,
 ⟨5, none, .store 2 (.t 10) (.t 33), none, []⟩] false [3, 5, 6, 7, 8, 9, 10, 27, 28, 29])
 (.seq (.region 0 [
 ⟨0, some 11, .mv (.k (.sc (.sl .nil 1 []))), none, []⟩] false [3, 5, 6, 7, 8, 9, 10, 11, 27, 28, 29])
 (.seq (.seq (.region 0 [
 ⟨0, some 34, .faddr 0 (.t 10), none, []⟩,
 ⟨1, some 35, .load none (.t 34), none, []⟩,
 ⟨2, some 12, .mv (.t 35), none, []⟩] false [3, 5, 6, 7, 8, 9, 10, 11, 12, 27, 28, 29])
 (.block 4 (a8c)))
 (.seq (.seq (.region 0 [
 ⟨0, some 52, .mv (.t 11), none, []⟩,
 ⟨1, some 53, .len 1 (.t 52), none, []⟩,
 ⟨2, some 54, .bin .eql (.t 53) (.k (.sc (.int .i64 0))), none, []⟩] false [3, 5, 6, 7, 8, 11, 27, 28, 29, 54])
 (.cond (.t 54)
 (.exit 1)
 (.skip)))
 (.region 0 [
 ⟨0, some 55, .faddr 3 (.t 8), none, []⟩,
 ⟨1, some 56, .loadT (.t 55), none, []⟩,
 ⟨2, some 57, .mv (.t 11), none, []⟩,
 ⟨3, some 58, .bslice 1 1 [.sl .nil 1 []] [(0, .t 57)], none, []⟩,
 ⟨4, some 59, .append 1 (.tk 56) (.t 58), none, []⟩,
 ⟨5, some 60, .faddr 3 (.t 8), none, []⟩,
 ⟨6, none, .store 1 (.t 60) (.tk 59), none, []⟩] false [3, 5, 6, 7, 8, 27, 28, 29]))))))
 (.region 0 [
 ⟨0, some 61, .bin .add (.t 29) (.k (.sc (.int .i64 1))), none, []⟩,
 ⟨1, some 29, .mv (.t 61), none, []⟩] false [3, 5, 6, 7, 8, 27, 28, 29]))))
def a5V : AC := .loop [3, 5, 6, 7, 8, 27, 28, 29] a1P
def a2x : AC :=
 (.region 1 [
 ⟨0, some 7, .alloc 0 [.int .i64 0, .int .i64 0, .int .i64 0], none, []⟩,
 ⟨1, none, .store 3 (.t 7) (.t 23), none, []⟩] false [2, 3, 5, 6, 7])
def a2y : AC :=
 (.block 1 (.seq (.region 1 [
 ⟨0, some 24, .load (some 3) (.t 7), none, []⟩,
 ⟨1, some 25, .build [.int .i64 0, .int .i64 0, .int .i64 0, .sl .nil 1 []] [(0, 3, .t 24)], none, []⟩,
 ⟨2, some 8, .alloc 0 [.int .i64 0, .int .i64 0, .int .i64 0, .sl .nil 1 []], none, []⟩,
 ⟨3, none, .store 4 (.t 8) (.t 25), none, []⟩] false [2, 3, 5, 6, 7, 8])
 (.seq (.seq (.region 0 [
 ⟨0, some 26, .faddr 0 (.t 2), none, []⟩,
 ⟨1, some 27, .load none (.t 26), none, []⟩,
 ⟨2, some 28, .len 1 (.t 27), none, []⟩,
 ⟨3, some 29, .mv (.k (.sc (.int .i64 0))), none, []⟩] false [3, 5, 6, 7, 8, 27, 28, 29])
 (.block 2 (a5V)))
 (.region 0 [
 ⟨0, some 62, .faddr 11 (.t 5), none, []⟩,
 ⟨1, some 63, .loadT (.t 62), none, []⟩,
 ⟨2, some 64, .load (some 4) (.t 8), none, []⟩,
 ⟨3, some 65, .bslice 4 1 [.int .i64 0, .int .i64 0, .int .i64 0, .sl .nil 1 []] [(0, .t 64)], none, []⟩,
 ⟨4, some 66, .append 4 (.tk 63) (.t 65), none, []⟩,
 ⟨5, some 67, .faddr 11 (.t 5), none, []⟩,
 ⟨6, none, .store 1 (.t 67) (.tk 66), none, []⟩] false []))))
def a5P : Fn := ⟨2, 69, [(4, some (some 12))],
 (.seq (.region 3 [
 ⟨0, some 2, .box 0 (.t 0), none, []⟩,
 ⟨1, some 3, .box 1 (.t 1), none, []⟩,
 ⟨2, some 4, .alloc 2 [.sl .nil 2 [], .int .i64 0, .int .i64 0, .int .i64 0, .int .i64 0, .int .i64 0, .int .i64 0, .sl .nil 3 [], .sl .nil 2 [], .sl .nil 4 [], .imap true false [], .sl .nil 4 []], none, []⟩] false [2, 3, 4])
 (.seq (.region 2 [
 ⟨0, some 13, .load (some 10) (.t 2), none, []⟩,
 ⟨1, some 14, .kset 0 2, none, [0]⟩,
 ⟨2, some 15, .faddr 8 (.t 2), none, []⟩,
 ⟨3, some 16, .load none (.t 15), none, [1]⟩,
 ⟨4, some 17, .call true (.f 121) [.t 14, .t 16], none, []⟩,
 ⟨5, some 18, .build [.sl .nil 2 [], .int .i64 0, .int .i64 0, .int .i64 0, .int .i64 0, .int .i64 0, .int .i64 0, .sl .nil 3 [], .sl .nil 2 [], .sl .nil 4 [], .imap true false [], .sl .nil 4 []] [(0, 10, .t 13), (10, 1, .t 17)], none, []⟩,
 ⟨6, some 5, .alloc 1 [.sl .nil 2 [], .int .i64 0, .int .i64 0, .int .i64 0, .int .i64 0, .int .i64 0, .int .i64 0, .sl .nil 3 [], .sl .nil 2 [], .sl .nil 4 [], .imap true false [], .sl .nil 4 []], none, [0, 3]⟩,
 ⟨7, none, .store 12 (.t 5) (.t 18), none, []⟩] true [2, 3, 4, 5])
 (.seq (.region 1 [
 ⟨0, some 19, .load (some 12) (.t 5), none, []⟩,
 ⟨1, some 20, .mkf 171 [some 12] [.t 19] [], none, []⟩,
 ⟨2, some 6, .alloc 0 [.nilf], none, []⟩,
 ⟨3, none, .store 1 (.t 6) (.t 20), none, []⟩] false [2, 3, 4, 5, 6])
 (.seq (.seq (.region 0 [
 ⟨0, some 21, .load (some 12) (.t 5), none, []⟩,
 ⟨1, some 22, .call true (.f 172) [.t 21], none, []⟩] false [2, 3, 4, 5, 6, 22])
 (.block 0 (.rfunc (.t 22) [23] a2x a2y)))
 (.seq (.region 0 [
 ⟨0, some 68, .load (some 12) (.t 5), none, []⟩,
 ⟨1, none, .store 12 (.t 4) (.t 68), none, []⟩] false [4])
 (.ret)))))), false⟩
def a1G : AC :=
 (.seq (.seq (.region 0 [
 ⟨0, some 34, .mv (.t 10), none, []⟩,
 ⟨1, some 35, .faddr 9 (.t 2), none, []⟩,
 ⟨2, some 36, .load none (.t 35), none, []⟩,
 ⟨3, some 37, .len 1 (.t 36), none, []⟩,
 ⟨4, some 38, .bin .lss (.t 34) (.t 37), none, []⟩] false [0, 1, 2, 3, 8, 10, 38])
 (.cond (.t 38)
 (.skip)
 (.exit 0)))
 (.seq (.block 1 (.seq (.region 0 [
 ⟨0, some 42, .load none (.t 3), none, []⟩,
 ⟨1, some 43, .mv (.t 0), none, []⟩,
 ⟨2, some 44, .mv (.t 8), none, []⟩,
 ⟨3, some 45, .mv (.t 8), none, []⟩,
 ⟨4, some 46, .slice 1 (.t 43) none (some (.t 44)) (some (.t 45)), none, []⟩,
 ⟨5, some 47, .mv (.t 10), none, []⟩,
 ⟨6, some 48, .bslice 1 1 [.int .i64 0] [(0, .t 47)], none, []⟩,
 ⟨7, some 49, .append 1 (.tk 46) (.t 48), none, []⟩,
 ⟨8, some 50, .mv (.t 1), none, []⟩,
 ⟨9, some 51, .call false (.t 42) [.t 49, .t 50], none, []⟩,
 ⟨10, some 41, .mv (.t 51), none, []⟩,
 ⟨11, some 52, .ext (.t 41) 0, none, []⟩,
 ⟨12, some 53, .ext (.t 41) 1, none, []⟩,
 ⟨13, some 11, .mv (.t 52), none, []⟩,
 ⟨14, some 12, .mv (.t 53), none, []⟩] true [0, 1, 2, 3, 8, 10, 11, 12])
 (.seq (.region 0 [
 ⟨0, some 54, .mv (.t 12), none, []⟩] false [0, 1, 2, 3, 8, 10, 11, 54])
 (.cond (.t 54)
 (.seq (.region 0 [
 ⟨0, some 55, .mv (.t 11), none, []⟩,
 ⟨1, some 6, .mv (.t 55), none, []⟩,
 ⟨2, some 7, .mv (.k (.sc (.bool true))), none, []⟩] false [6, 7])
 (.ret))
 (.skip)))))
 (.region 0 [
 ⟨0, some 39, .mv (.t 10), none, []⟩,
 ⟨1, some 40, .bin .add (.t 39) (.k (.sc (.int .i64 1))), none, []⟩,
 ⟨2, some 10, .mv (.t 40), none, []⟩] false [0, 1, 2, 3, 8, 10])))
def a5x : AC := .loop [0, 1, 2, 3, 8, 10] a1G
def a1d : Fn := ⟨4, 56, [(6, none), (7, none)],
 (.seq (.region 0 [
 ⟨0, some 6, .mv (.k (.sc (.sl .nil 1 []))), none, []⟩,
 ⟨1, some 7, .mv (.k (.sc (.bool false))), none, []⟩] false [0, 1, 2, 3])
 (.seq (.region 0 [
 ⟨0, some 13, .mv (.t 0), none, []⟩,
 ⟨1, some 14, .len 1 (.t 13), none, []⟩,
 ⟨2, some 8, .mv (.t 14), none, []⟩] false [0, 1, 2, 3, 8])
 (.seq (.seq (.region 0 [
 ⟨0, some 15, .mv (.t 8), none, []⟩,
 ⟨1, some 16, .mv (.t 1), none, []⟩,
 ⟨2, some 17, .bin .eql (.t 15) (.t 16), none, []⟩] false [0, 1, 2, 3, 8, 17])
 (.cond (.t 17)
 (.seq (.region 0 [
 ⟨0, some 18, .mv (.t 0), none, []⟩,
 ⟨1, some 19, .load (some 10) (.t 2), none, []⟩,
 ⟨2, some 20, .mv (.t 0), none, []⟩,
 ⟨3, some 21, .call true (.f 144) [.t 19, .t 20], none, []⟩,
 ⟨4, some 22, .field 11 none (.t 21), none, []⟩,
 ⟨5, some 23, .len 1 (.t 22), none, []⟩,
 ⟨6, some 24, .bin .gtr (.t 23) (.k (.sc (.int .i64 0))), none, []⟩,
 ⟨7, some 6, .mv (.t 18), none, []⟩,
 ⟨8, some 7, .mv (.t 24), none, []⟩] false [6, 7])
 (.ret))
 (.skip)))
 (.seq (.region 0 [
 ⟨0, some 9, .mv (.k (.sc (.int .i64 0))), none, []⟩] false [0, 1, 2, 3, 8, 9])
 (.seq (.seq (.region 0 [
 ⟨0, some 25, .mv (.t 8), none, []⟩,
 ⟨1, some 26, .bin .gtr (.t 25) (.k (.sc (.int .i64 0))), none, []⟩] false [0, 1, 2, 3, 8, 9, 26])
 (.cond (.t 26)
 (.region 0 [
 ⟨0, some 27, .mv (.t 0), none, []⟩,
 ⟨1, some 28, .mv (.t 8), none, []⟩,
 ⟨2, some 29, .bin .sub (.t 28) (.k (.sc (.int .i64 1))), none, []⟩,
 ⟨3, some 30, .iaddr 1 (.t 27) (.t 29), none, []⟩,
 ⟨4, some 31, .load none (.t 30), none, []⟩,
 ⟨5, some 32, .bin .add (.t 31) (.k (.sc (.int .i64 1))), none, []⟩,
 ⟨6, some 9, .mv (.t 32), none, []⟩] false [0, 1, 2, 3, 8, 9])
 (.skip)))
 (.seq (.seq (.region 0 [
 ⟨0, some 33, .mv (.t 9), none, []⟩,
 ⟨1, some 10, .mv (.t 33), none, []⟩] false [0, 1, 2, 3, 8, 10])
 (.block 0 (a5x)))
 (.seq (.region 0 [
 ⟨0, some 6, .mv (.k (.sc (.sl .nil 1 []))), none, []⟩,
 ⟨1, some 7, .mv (.k (.sc (.bool false))), none, []⟩] false [6, 7])
 (.ret)))))))), false⟩
def a4b : Fn := ⟨0, 2, [(0, some (some 10))],
 (.seq (.region 1 [
 ⟨0, some 0, .alloc 0 [.sl .nil 2 [], .int .i64 0, .int .i64 0, .int .i64 0, .int .i64 0, .int .i64 0, .int .i64 0, .sl .nil 3 [], .sl .nil 2 [], .sl .nil 4 []], none, []⟩] false [0])
 (.seq (.region 0 [
 ⟨0, some 1, .call true (.f 168) [.k (.sc (.int .i64 2)), .k (.sc (.sl .nil 4 []))], none, []⟩,
 ⟨1, none, .store 10 (.t 0) (.t 1), none, []⟩] false [0])
 (.ret))), false⟩
def a2m : AC :=
 (.seq (.region 0 [
 ⟨0, some 10, .bin .lss (.t 9) (.t 8), none, []⟩] false [3, 7, 8, 9, 10])
 (.seq (.cond (.t 10)
 (.skip)
 (.exit 0))
 (.seq (.block 1 (.seq (.region 1 [
 ⟨0, some 11, .iaddr 4 (.t 7) (.t 9), none, []⟩,
 ⟨1, some 12, .load (some 4) (.t 11), none, []⟩,
 ⟨2, some 5, .alloc 0 [.int .i64 0, .int .i64 0, .int .i64 0, .int .i64 0], none, []⟩,
 ⟨3, none, .store 4 (.t 5) (.t 12), none, []⟩] false [3, 5, 7, 8, 9])
 (.region 0 [
 ⟨0, some 13, .mv (.t 3), none, []⟩,
 ⟨1, some 14, .faddr 1 (.t 5), none, []⟩,
 ⟨2, some 15, .load none (.t 14), none, []⟩,
 ⟨3, some 16, .bin .add (.t 15) (.k (.sc (.int .i64 1))), none, []⟩,
 ⟨4, some 17, .max (.t 13) [.t 16], none, []⟩,
 ⟨5, some 3, .mv (.t 17), none, []⟩] false [3, 7, 8, 9])))
 (.region 0 [
 ⟨0, some 18, .bin .add (.t 9) (.k (.sc (.int .i64 1))), none, []⟩,
 ⟨1, some 9, .mv (.t 18), none, []⟩] false [3, 7, 8, 9]))))
def a9d : AC := .loop [3, 7, 8, 9] a2m
def a7d : Fn := ⟨1, 20, [(2, none)],
 (.seq (.region 1 [
 ⟨0, some 1, .box 0 (.t 0), none, []⟩,
 ⟨1, some 2, .mv (.k (.sc (.int .i64 0))), none, []⟩] false [1])
 (.seq (.region 0 [
 ⟨0, some 3, .mv (.k (.sc (.int .i64 0))), none, []⟩] false [1, 3])
 (.seq (.seq (.region 0 [
 ⟨0, some 6, .faddr 9 (.t 1), none, []⟩,
 ⟨1, some 7, .load none (.t 6), none, []⟩,
 ⟨2, some 8, .len 1 (.t 7), none, []⟩,
 ⟨3, some 9, .mv (.k (.sc (.int .i64 0))), none, []⟩] false [3, 7, 8, 9])
 (.block 0 (a9d)))
 (.seq (.region 0 [
 ⟨0, some 19, .mv (.t 3), none, []⟩,
 ⟨1, some 2, .mv (.t 19), none, []⟩] false [2])
 (.ret))))), false⟩
def a3V : Fn := ⟨4, 21, [(8, none)],
 (.seq (.region 1 [
 ⟨0, some 4, .box 0 (.t 0), none, []⟩,
 ⟨1, some 8, .mv (.k (.sc (.bool false))), none, []⟩] false [1, 2, 3, 4])
 (.seq (.region 0 [
 ⟨0, some 9, .load (some 12) (.t 4), none, []⟩,
 ⟨1, some 10, .mv (.t 1), none, []⟩,
 ⟨2, some 11, .mv (.t 2), none, []⟩,
 ⟨3, some 12, .mv (.t 3), none, []⟩,
 ⟨4, some 13, .call true (.f 145) [.t 9, .t 10, .t 11, .t 12], none, []⟩,
 ⟨5, some 14, .mv (.t 13), none, []⟩,
 ⟨6, some 15, .load (some 12) (.t 4), some (14, false), []⟩,
 ⟨7, some 16, .mv (.t 1), some (14, false), []⟩,
 ⟨8, some 17, .mv (.t 2), some (14, false), []⟩,
 ⟨9, some 18, .mv (.t 3), some (14, false), []⟩,
 ⟨10, some 19, .call true (.f 146) [.t 15, .t 16, .t 17, .t 18], some (14, false), []⟩,
 ⟨11, some 20, .pick (.t 14) (.k (.sc (.bool true))) (.t 19), none, []⟩,
 ⟨12, some 8, .mv (.t 20), none, []⟩] false [8])
 (.ret))), false⟩
def a5b : Fn := ⟨2, 11, [(4, none)],
 (.seq (.region 1 [
 ⟨0, some 2, .box 0 (.t 0), none, []⟩,
 ⟨1, some 4, .mv (.k (.sc (.bool false))), none, []⟩] false [1, 2])
 (.seq (.region 0 [
 ⟨0, some 5, .mv (.t 1), none, []⟩,
 ⟨1, some 6, .faddr 0 (.t 2), none, []⟩,
 ⟨2, some 7, .load none (.t 6), none, []⟩,
 ⟨3, some 8, .len 1 (.t 7), none, []⟩,
 ⟨4, some 9, .bin .sub (.t 8) (.k (.sc (.int .i64 1))), none, []⟩,
 ⟨5, some 10, .call true (.f 150) [.t 5, .k (.sc (.int .i64 0)), .t 9], none, []⟩,
 ⟨6, some 4, .mv (.t 10), none, []⟩] false [4])
 (.ret))), false⟩
def a6G : Fn := ⟨2, 11, [(4, none)],
 (.seq (.region 1 [
 ⟨0, some 2, .box 0 (.t 0), none, []⟩,
 ⟨1, some 4, .mv (.k (.sc (.bool false))), none, []⟩] false [1, 2])
 (.seq (.region 0 [
 ⟨0, some 5, .mv (.t 1), none, []⟩,
 ⟨1, some 6, .faddr 7 (.t 2), none, []⟩,
 ⟨2, some 7, .load none (.t 6), none, []⟩,
 ⟨3, some 8, .len 1 (.t 7), none, []⟩,
 ⟨4, some 9, .bin .sub (.t 8) (.k (.sc (.int .i64 1))), none, []⟩,
 ⟨5, some 10, .call true (.f 150) [.t 5, .k (.sc (.int .i64 0)), .t 9], none, []⟩,
 ⟨6, some 4, .mv (.t 10), none, []⟩] false [4])
 (.ret))), false⟩
def a1E : AC :=
 (.seq (.region 0 [
 ⟨0, some 28, .bin .lss (.t 27) (.t 26), none, []⟩] false [1, 2, 3, 4, 8, 9, 11, 15, 16, 17, 25, 26, 27, 28])
 (.seq (.cond (.t 28)
 (.skip)
 (.exit 2))
 (.seq (.block 3 (.seq (.region 0 [
 ⟨0, some 29, .iaddr 1 (.t 25) (.t 27), none, []⟩,
 ⟨1, some 30, .load none (.t 29), none, []⟩,
 ⟨2, some 13, .mv (.t 30), none, []⟩] false [1, 2, 3, 4, 8, 9, 11, 13, 15, 16, 17, 25, 26, 27])
 (.region 0 [
 ⟨0, some 31, .mv (.tk 9), none, []⟩,
 ⟨1, some 32, .load (some 12) (.t 4), none, []⟩,
 ⟨2, some 33, .faddr 0 (.t 11), none, []⟩,
 ⟨3, some 34, .load (some 3) (.t 33), none, []⟩,
 ⟨4, some 35, .mv (.t 1), none, []⟩,
 ⟨5, some 36, .mv (.t 13), none, []⟩,
 ⟨6, some 37, .mv (.t 2), none, []⟩,
 ⟨7, some 38, .mv (.t 3), none, []⟩,
 ⟨8, some 39, .call true (.f 188) [.t 32, .t 34, .t 35, .t 36, .t 37, .t 38], none, []⟩,
 ⟨9, some 40, .bslice 1 1 [.int .i64 0] [(0, .t 39)], none, []⟩,
 ⟨10, some 41, .append 1 (.tk 31) (.t 40), none, []⟩,
 ⟨11, some 9, .mv (.tk 41), none, []⟩] false [1, 2, 3, 4, 8, 9, 11, 15, 16, 17, 25, 26, 27])))
 (.region 0 [
 ⟨0, some 42, .bin .add (.t 27) (.k (.sc (.int .i64 1))), none, []⟩,
 ⟨1, some 27, .mv (.t 42), none, []⟩] false [1, 2, 3, 4, 8, 9, 11, 15, 16, 17, 25, 26, 27]))))
def a6L : AC := .loop [1, 2, 3, 4, 8, 9, 11, 15, 16, 17, 25, 26, 27] a1E
def a1D : AC :=
 (.seq (.region 0 [
 ⟨0, some 18, .bin .lss (.t 17) (.t 16), none, []⟩] false [1, 2, 3, 4, 8, 9, 15, 16, 17, 18])
 (.seq (.cond (.t 18)
 (.skip)
 (.exit 0))
 (.seq (.block 1 (.seq (.region 1 [
 ⟨0, some 19, .iaddr 4 (.t 15) (.t 17), none, []⟩,
 ⟨1, some 20, .load (some 4) (.t 19), none, []⟩,
 ⟨2, some 11, .alloc 0 [.int .i64 0, .int .i64 0, .int .i64 0, .sl .nil 1 []], none, []⟩,
 ⟨3, none, .store 4 (.t 11) (.t 20), none, []⟩] false [1, 2, 3, 4, 8, 9, 11, 15, 16, 17])
 (.seq (.region 0 [
 ⟨0, some 21, .faddr 3 (.t 11), none, []⟩,
 ⟨1, some 22, .load none (.t 21), none, []⟩,
 ⟨2, some 23, .mv (.t 1), none, []⟩,
 ⟨3, some 24, .iaddr 1 (.t 22) (.t 23), none, []⟩,
 ⟨4, some 25, .load none (.t 24), none, []⟩,
 ⟨5, some 26, .len 1 (.t 25), none, []⟩,
 ⟨6, some 27, .mv (.k (.sc (.int .i64 0))), none, []⟩] false [1, 2, 3, 4, 8, 9, 11, 15, 16, 17, 25, 26, 27])
 (.block 2 (a6L)))))
 (.region 0 [
 ⟨0, some 43, .bin .add (.t 17) (.k (.sc (.int .i64 1))), none, []⟩,
 ⟨1, some 17, .mv (.t 43), none, []⟩] false [1, 2, 3, 4, 8, 9, 15, 16, 17]))))
def a6K : AC := .loop [1, 2, 3, 4, 8, 9, 15, 16, 17] a1D
def a4H : Fn := ⟨4, 52, [(8, some (some 2))],
 (.seq (.region 2 [
 ⟨0, some 4, .box 0 (.t 0), none, []⟩,
 ⟨1, some 8, .alloc 1 [.int .i64 0, .int .i64 0], none, []⟩] false [1, 2, 3, 4, 8])
 (.seq (.region 0 [
 ⟨0, some 9, .mv (.k (.sc (.sl .nil 1 []))), none, []⟩] false [1, 2, 3, 4, 8, 9])
 (.seq (.seq (.region 0 [
 ⟨0, some 14, .faddr 11 (.t 4), none, []⟩,
 ⟨1, some 15, .load none (.t 14), none, []⟩,
 ⟨2, some 16, .len 1 (.t 15), none, []⟩,
 ⟨3, some 17, .mv (.k (.sc (.int .i64 0))), none, []⟩] false [1, 2, 3, 4, 8, 9, 15, 16, 17])
 (.block 0 (a6K)))
 (.seq (.region 0 [
 ⟨0, some 44, .mv (.t 9), none, []⟩,
 ⟨1, some 45, .iaddr 1 (.t 44) (.k (.sc (.int .i64 0))), none, []⟩,
 ⟨2, some 46, .load none (.t 45), none, []⟩,
 ⟨3, some 47, .mv (.t 9), none, []⟩,
 ⟨4, some 48, .call true (.f 169) [.t 46, .t 47], none, []⟩,
 ⟨5, some 49, .mv (.t 9), none, []⟩,
 ⟨6, some 50, .call true (.f 189) [.t 49], none, []⟩,
 ⟨7, some 51, .build [.int .i64 0, .int .i64 0] [(0, 1, .t 48), (1, 1, .t 50)], none, []⟩,
 ⟨8, none, .store 2 (.t 8) (.t 51), none, []⟩] false [8])
 (.ret))))), false⟩
def a3U : Fn := ⟨4, 16, [(8, none)],
 (.seq (.region 1 [
 ⟨0, some 4, .box 0 (.t 0), none, []⟩,
 ⟨1, some 8, .mv (.k (.sc (.bool false))), none, []⟩] false [1, 2, 3, 4])
 (.seq (.region 0 [
 ⟨0, some 9, .load (some 12) (.t 4), none, []⟩,
 ⟨1, some 10, .mv (.t 1), none, []⟩,
 ⟨2, some 11, .mv (.t 2), none, []⟩,
 ⟨3, some 12, .mv (.t 3), none, []⟩,
 ⟨4, some 13, .call true (.f 167) [.t 9, .t 10, .t 11, .t 12], none, []⟩,
 ⟨5, some 14, .field 0 none (.t 13), none, []⟩,
 ⟨6, some 15, .bin .lss (.t 14) (.k (.sc (.int .i64 0))), none, []⟩,
 ⟨7, some 8, .mv (.t 15), none, []⟩] false [8])
 (.ret))), false⟩
def a0x : AC :=
 (.seq (.region 0 [
 ⟨0, some 10, .bin .lss (.t 9) (.t 8), none, []⟩] false [1, 2, 7, 8, 9, 10])
 (.seq (.cond (.t 10)
 (.skip)
 (.exit 0))
 (.seq (.block 1 (.seq (.region 1 [
 ⟨0, some 11, .mv (.t 9), none, []⟩,
 ⟨1, some 12, .iaddr 2 (.t 7) (.t 9), none, []⟩,
 ⟨2, some 13, .load (some 2) (.t 12), none, []⟩,
 ⟨3, some 6, .alloc 0 [.int .i64 0, .int .i64 0], none, []⟩,
 ⟨4, some 5, .mv (.t 11), none, []⟩,
 ⟨5, none, .store 2 (.t 6) (.t 13), none, []⟩] false [1, 2, 5, 6, 7, 8, 9])
 (.seq (.region 0 [
 ⟨0, some 14, .load (some 10) (.t 2), none, []⟩,
 ⟨1, some 15, .faddr 0 (.t 6), none, []⟩,
 ⟨2, some 16, .load none (.t 15), none, []⟩,
 ⟨3, some 17, .call true (.f 152) [.t 14, .t 16], none, []⟩,
 ⟨4, some 18, .un .not (.t 17), none, []⟩,
 ⟨5, some 19, .mv (.t 18), none, []⟩,
 ⟨6, some 20, .faddr 0 (.t 6), some (19, false), []⟩,
 ⟨7, some 21, .load none (.t 20), some (19, false), []⟩,
 ⟨8, some 22, .load (some 10) (.t 2), some (19, false), []⟩,
 ⟨9, some 23, .call true (.f 112) [.t 22], some (19, false), []⟩,
 ⟨10, some 24, .bin .lss (.t 21) (.t 23), some (19, false), []⟩,
 ⟨11, some 25, .pick (.t 19) (.k (.sc (.bool true))) (.t 24), none, []⟩,
 ⟨12, some 26, .mv (.t 25), none, []⟩,
 ⟨13, some 27, .load (some 10) (.t 2), some (26, false), []⟩,
 ⟨14, some 28, .faddr 1 (.t 6), some (26, false), []⟩,
 ⟨15, some 29, .load none (.t 28), some (26, false), []⟩,
 ⟨16, some 30, .call true (.f 153) [.t 27, .t 29], some (26, false), []⟩,
 ⟨17, some 31, .un .not (.t 30), some (26, false), []⟩,
 ⟨18, some 32, .pick (.t 26) (.k (.sc (.bool true))) (.t 31), none, []⟩,
 ⟨19, some 33, .mv (.t 32), none, []⟩,
 ⟨20, some 34, .faddr 8 (.t 2), some (33, false), []⟩,
 ⟨21, some 35, .load none (.t 34), some (33, false), []⟩,
 ⟨22, some 36, .load (some 2) (.t 6), some (33, false), []⟩,
 ⟨23, some 37, .call true (.f 155) [.t 35, .t 36], some (33, false), []⟩,
 ⟨24, some 38, .pick (.t 33) (.k (.sc (.bool true))) (.t 37), none, []⟩,
 ⟨25, some 39, .mv (.t 38), none, []⟩,
 ⟨26, some 40, .mv (.t 5), some (39, false), []⟩,
 ⟨27, some 41, .bin .gtr (.t 40) (.k (.sc (.int .i64 0))), some (39, false), []⟩,
 ⟨28, some 42, .mv (.t 41), some (39, false), []⟩,
 ⟨29, some 43, .mv (.t 1), some (42, true), []⟩,
 ⟨30, some 44, .mv (.t 5), some (42, true), []⟩,
 ⟨31, some 45, .bin .sub (.t 44) (.k (.sc (.int .i64 1))), some (42, true), []⟩,
 ⟨32, some 46, .iaddr 2 (.t 43) (.t 45), some (42, true), []⟩,
 ⟨33, some 47, .load (some 2) (.t 46), some (42, true), []⟩,
 ⟨34, some 48, .load (some 2) (.t 6), some (42, true), []⟩,
 ⟨35, some 49, .call true (.f 131) [.t 47, .t 48], some (42, true), []⟩,
 ⟨36, some 50, .bin .geq (.t 49) (.k (.sc (.int .i64 0))), some (42, true), []⟩,
 ⟨37, some 51, .pick (.t 42) (.t 50) (.k (.sc (.bool false))), some (39, false), []⟩,
 ⟨38, some 52, .pick (.t 39) (.k (.sc (.bool true))) (.t 51), none, []⟩] true [1, 2, 7, 8, 9, 52])
 (.cond (.t 52)
 (.seq (.region 0 [
 ⟨0, some 4, .mv (.k (.sc (.bool false))), none, []⟩] false [4])
 (.ret))
 (.skip)))))
 (.region 0 [
 ⟨0, some 53, .bin .add (.t 9) (.k (.sc (.int .i64 1))), none, []⟩,
 ⟨1, some 9, .mv (.t 53), none, []⟩] false [1, 2, 7, 8, 9]))))
def b1m : AC := .loop [1, 2, 7, 8, 9] a0x
def a5M : Fn := ⟨2, 54, [(4, none)],
 (.seq (.region 1 [
 ⟨0, some 2, .box 0 (.t 0), none, []⟩,
 ⟨1, some 4, .mv (.k (.sc (.bool false))), none, []⟩] false [1, 2])
 (.seq (.seq (.region 0 [
 ⟨0, some 7, .mv (.t 1), none, []⟩,
 ⟨1, some 8, .len 1 (.t 7), none, []⟩,
 ⟨2, some 9, .mv (.k (.sc (.int .i64 0))), none, []⟩] false [1, 2, 7, 8, 9])
 (.block 0 (b1m)))
 (.seq (.region 0 [
 ⟨0, some 4, .mv (.k (.sc (.bool true))), none, []⟩] false [4])
 (.ret)))), false⟩
def a1s : AC :=
 (.seq (.region 0 [
 ⟨0, some 22, .bin .lss (.t 21) (.t 20), none, []⟩] false [5, 19, 20, 21, 22])
 (.seq (.cond (.t 22)
 (.skip)
 (.exit 2))
 (.seq (.block 3 (.seq (.region 1 [
 ⟨0, some 23, .iaddr 2 (.t 19) (.t 21), none, []⟩,
 ⟨1, some 24, .load (some 2) (.t 23), none, []⟩,
 ⟨2, some 8, .alloc 0 [.int .i64 0, .int .i64 0], none, []⟩,
 ⟨3, none, .store 2 (.t 8) (.t 24), none, []⟩] false [5, 8, 19, 20, 21])
 (.seq (.region 1 [
 ⟨0, some 25, .faddr 0 (.t 8), none, []⟩,
 ⟨1, some 26, .load none (.t 25), none, []⟩,
 ⟨2, some 27, .faddr 1 (.t 8), none, []⟩,
 ⟨3, some 28, .load none (.t 27), none, []⟩,
 ⟨4, some 29, .build [.int .i64 0, .int .i64 0] [(0, 1, .t 26), (1, 1, .t 28)], none, []⟩,
 ⟨5, some 9, .alloc 0 [.int .i64 0, .int .i64 0], none, []⟩,
 ⟨6, none, .store 2 (.t 9) (.t 29), none, []⟩] false [5, 9, 19, 20, 21])
 (.seq (.region 0 [
 ⟨0, some 30, .load (some 2) (.t 9), none, []⟩,
 ⟨1, some 31, .load (some 2) (.g 3), none, []⟩,
 ⟨2, some 32, .eqf true ⟨true, [1, 1]⟩ (.t 30) (.t 31), none, []⟩] false [5, 9, 19, 20, 21, 32])
 (.cond (.t 32)
 (.region 0 [
 ⟨0, some 33, .mv (.t 5), none, []⟩,
 ⟨1, some 34, .load (some 2) (.t 9), none, []⟩,
 ⟨2, none, .sadd 2 (.t 33) (.t 34), none, []⟩] false [5, 19, 20, 21])
 (.skip))))))
 (.region 0 [
 ⟨0, some 35, .bin .add (.t 21) (.k (.sc (.int .i64 1))), none, []⟩,
 ⟨1, some 21, .mv (.t 35), none, []⟩] false [5, 19, 20, 21]))))
def a6H : AC := .loop [5, 19, 20, 21] a1s
def a4h : Fn := ⟨2, 37, [(4, none)],
 (.seq (.region 0 [
 ⟨0, some 4, .mv (.k (.sc (.imap true false []))), none, []⟩] false [0, 1])
 (.seq (.region 1 [
 ⟨0, some 10, .mkset 0 2, none, []⟩,
 ⟨1, some 5, .mv (.t 10), none, []⟩] false [0, 1, 5])
 (.seq (.seq (.region 1 [
 ⟨0, some 11, .mv (.t 0), none, []⟩,
 ⟨1, some 12, .rng 0 (.t 11), none, []⟩] false [1, 5, 12])
 (.union [1, 5] 12 5 2))
 (.seq (.seq (.region 0 [
 ⟨0, some 19, .mv (.t 1), none, []⟩,
 ⟨1, some 20, .len 1 (.t 19), none, []⟩,
 ⟨2, some 21, .mv (.k (.sc (.int .i64 0))), none, []⟩] false [5, 19, 20, 21])
 (.block 2 (a6H)))
 (.seq (.region 0 [
 ⟨0, some 36, .mv (.t 5), none, []⟩,
 ⟨1, some 4, .mv (.t 36), none, []⟩] false [4])
 (.ret)))))), false⟩
def a3E : AC :=
 (.seq (.seq (.region 0 [
 ⟨0, some 11, .mv (.t 7), none, []⟩,
 ⟨1, some 12, .faddr 0 (.t 3), none, []⟩,
 ⟨2, some 13, .faddr 7 (.t 12), none, []⟩,
 ⟨3, some 14, .load none (.t 13), none, []⟩,
 ⟨4, some 15, .len 1 (.t 14), none, []⟩,
 ⟨5, some 16, .bin .lss (.t 11) (.t 15), none, []⟩] false [1, 2, 3, 7, 16])
 (.cond (.t 16)
 (.skip)
 (.exit 0)))
 (.seq (.block 1 (.seq (.region 0 [
 ⟨0, some 19, .load (some 12) (.t 3), none, []⟩,
 ⟨1, some 20, .mv (.t 1), none, []⟩,
 ⟨2, some 21, .mv (.t 7), none, []⟩,
 ⟨3, some 22, .mv (.t 2), none, []⟩,
 ⟨4, some 23, .call true (.f 113) [.t 19, .t 20, .t 21, .t 22], none, []⟩] false [1, 2, 3, 7, 23])
 (.cond (.t 23)
 (.seq (.region 0 [
 ⟨0, some 6, .mv (.k (.sc (.bool false))), none, []⟩] false [6])
 (.ret))
 (.skip))))
 (.region 0 [
 ⟨0, some 17, .mv (.t 7), none, []⟩,
 ⟨1, some 18, .bin .add (.t 17) (.k (.sc (.int .i64 1))), none, []⟩,
 ⟨2, some 7, .mv (.t 18), none, []⟩] false [1, 2, 3, 7])))
def a9K : AC := .loop [1, 2, 3, 7] a3E
def a4I : Fn := ⟨3, 24, [(6, none)],
 (.seq (.region 1 [
 ⟨0, some 3, .box 0 (.t 0), none, []⟩,
 ⟨1, some 6, .mv (.k (.sc (.bool false))), none, []⟩] false [1, 2, 3])
 (.seq (.seq (.region 0 [
 ⟨0, some 8, .faddr 0 (.t 3), none, []⟩,
 ⟨1, some 9, .load (some 10) (.t 8), none, []⟩,
 ⟨2, some 10, .call true (.f 112) [.t 9], none, []⟩,
 ⟨3, some 7, .mv (.t 10), none, []⟩] false [1, 2, 3, 7])
 (.block 0 (a9K)))
 (.seq (.region 0 [
 ⟨0, some 6, .mv (.k (.sc (.bool true))), none, []⟩] false [6])
 (.ret)))), false⟩
def a3g : AC :=
 (.seq (.region 0 [
 ⟨0, some 24, .bin .lss (.t 23) (.t 22), none, []⟩] false [1, 2, 5, 6, 22, 23, 24])
 (.seq (.cond (.t 24)
 (.skip)
 (.exit 2))
 (.seq (.block 3 (.seq (.region 0 [
 ⟨0, some 25, .mv (.t 23), none, []⟩,
 ⟨1, some 7, .mv (.t 25), none, []⟩] false [1, 2, 5, 6, 7, 22, 23])
 (.seq (.region 0 [
 ⟨0, some 26, .mv (.t 1), none, []⟩,
 ⟨1, some 27, .mv (.t 5), none, []⟩,
 ⟨2, some 28, .mv (.t 7), none, []⟩,
 ⟨3, some 29, .build [.int .i64 0, .int .i64 0] [(0, 1, .t 27), (1, 1, .t 28)], none, []⟩,
 ⟨4, some 30, .slook 2 (.t 26) (.t 29), none, []⟩,
 ⟨5, some 31, .un .not (.t 30), none, []⟩] false [1, 2, 5, 6, 22, 23, 31])
 (.cond (.t 31)
 (.region 0 [
 ⟨0, some 32, .mv (.t 6), none, []⟩,
 ⟨1, some 33, .bin .add (.t 32) (.k (.sc (.int .i64 1))), none, []⟩,
 ⟨2, some 6, .mv (.t 33), none, []⟩] false [1, 2, 5, 6, 22, 23])
 (.skip)))))
 (.region 0 [
 ⟨0, some 34, .bin .add (.t 23) (.k (.sc (.int .i64 1))), none, []⟩,
 ⟨1, some 23, .mv (.t 34), none, []⟩] false [1, 2, 5, 6, 22, 23]))))
def a6e : AC := .loop [1, 2, 5, 6, 22, 23] a3g
def a1k : AC :=
 (.seq (.seq (.region 0 [
 ⟨0, some 11, .mv (.t 5), none, []⟩,
 ⟨1, some 12, .faddr 0 (.t 2), none, []⟩,
 ⟨2, some 13, .faddr 7 (.t 12), none, []⟩,
 ⟨3, some 14, .load none (.t 13), none, []⟩,
 ⟨4, some 15, .len 1 (.t 14), none, []⟩,
 ⟨5, some 16, .bin .lss (.t 11) (.t 15), none, []⟩] false [1, 2, 5, 16])
 (.cond (.t 16)
 (.skip)
 (.exit 0)))
 (.seq (.block 1 (.seq (.region 0 [
 ⟨0, some 6, .mv (.k (.sc (.int .i64 0))), none, []⟩] false [1, 2, 5, 6])
 (.seq (.seq (.region 0 [
 ⟨0, some 19, .faddr 0 (.t 2), none, []⟩,
 ⟨1, some 20, .faddr 0 (.t 19), none, []⟩,
 ⟨2, some 21, .load none (.t 20), none, []⟩,
 ⟨3, some 22, .len 1 (.t 21), none, []⟩,
 ⟨4, some 23, .mv (.k (.sc (.int .i64 0))), none, []⟩] false [1, 2, 5, 6, 22, 23])
 (.block 2 (a6e)))
 (.seq (.region 0 [
 ⟨0, some 35, .mv (.t 6), none, []⟩,
 ⟨1, some 36, .faddr 0 (.t 2), none, []⟩,
 ⟨2, some 37, .faddr 7 (.t 36), none, []⟩,
 ⟨3, some 38, .load none (.t 37), none, []⟩,
 ⟨4, some 39, .mv (.t 5), none, []⟩,
 ⟨5, some 40, .iaddr 3 (.t 38) (.t 39), none, []⟩,
 ⟨6, some 41, .faddr 2 (.t 40), none, []⟩,
 ⟨7, some 42, .load none (.t 41), none, []⟩,
 ⟨8, some 43, .bin .lss (.t 35) (.t 42), none, []⟩] false [1, 2, 5, 43])
 (.cond (.t 43)
 (.seq (.region 0 [
 ⟨0, some 4, .mv (.k (.sc (.bool false))), none, []⟩] false [4])
 (.ret))
 (.skip))))))
 (.region 0 [
 ⟨0, some 17, .mv (.t 5), none, []⟩,
 ⟨1, some 18, .bin .add (.t 17) (.k (.sc (.int .i64 1))), none, []⟩,
 ⟨2, some 5, .mv (.t 18), none, []⟩] false [1, 2, 5])))
def a9c : AC := .loop [1, 2, 5] a1k
def a2j : Fn := ⟨2, 44, [(4, none)],
 (.seq (.region 1 [
 ⟨0, some 2, .box 0 (.t 0), none, []⟩,
 ⟨1, some 4, .mv (.k (.sc (.bool false))), none, []⟩] false [1, 2])
 (.seq (.seq (.region 0 [
 ⟨0, some 8, .faddr 0 (.t 2), none, []⟩,
 ⟨1, some 9, .load (some 10) (.t 8), none, []⟩,
 ⟨2, some 10, .call true (.f 112) [.t 9], none, []⟩,
 ⟨3, some 5, .mv (.t 10), none, []⟩] false [1, 2, 5])
 (.block 0 (a9c)))
 (.seq (.region 0 [
 ⟨0, some 4, .mv (.k (.sc (.bool true))), none, []⟩] false [4])
 (.ret)))), false⟩
def a5Q : Fn := ⟨3, 15, [(6, none)],
 (.seq (.region 0 [
 ⟨0, some 6, .mv (.k (.sc (.bool false))), none, []⟩] false [0, 1, 2])
 (.seq (.region 0 [
 ⟨0, some 7, .mv (.t 1), none, []⟩,
 ⟨1, some 8, .mv (.t 0), none, []⟩,
 ⟨2, some 9, .bin .leq (.t 7) (.t 8), none, []⟩,
 ⟨3, some 10, .mv (.t 9), none, []⟩,
 ⟨4, some 11, .mv (.t 0), some (10, true), []⟩,
 ⟨5, some 12, .mv (.t 2), some (10, true), []⟩,
 ⟨6, some 13, .bin .leq (.t 11) (.t 12), some (10, true), []⟩,
 ⟨7, some 14, .pick (.t 10) (.t 13) (.k (.sc (.bool false))), none, []⟩,
 ⟨8, some 6, .mv (.t 14), none, []⟩] false [6])
 (.ret))), false⟩
def a5O : Fn := ⟨3, 32, [(6, none)],
 (.seq (.region 1 [
 ⟨0, some 3, .box 0 (.t 0), none, []⟩,
 ⟨1, some 6, .mv (.k (.sc (.bool false))), none, []⟩] false [1, 2, 3])
 (.seq (.region 0 [
 ⟨0, some 7, .faddr 0 (.t 3), none, []⟩,
 ⟨1, some 8, .load none (.t 7), none, []⟩,
 ⟨2, some 9, .bin .leq (.k (.sc (.int .i64 0))) (.t 8), none, []⟩,
 ⟨3, some 10, .mv (.t 9), none, []⟩,
 ⟨4, some 11, .faddr 0 (.t 3), some (10, true), []⟩,
 ⟨5, some 12, .load none (.t 11), some (10, true), []⟩,
 ⟨6, some 13, .faddr 1 (.t 3), some (10, true), []⟩,
 ⟨7, some 14, .load none (.t 13), some (10, true), []⟩,
 ⟨8, some 15, .bin .leq (.t 12) (.t 14), some (10, true), []⟩,
 ⟨9, some 16, .pick (.t 10) (.t 15) (.k (.sc (.bool false))), none, []⟩,
 ⟨10, some 17, .mv (.t 16), none, []⟩,
 ⟨11, some 18, .faddr 1 (.t 3), some (17, true), []⟩,
 ⟨12, some 19, .load none (.t 18), some (17, true), []⟩,
 ⟨13, some 20, .mv (.t 1), some (17, true), []⟩,
 ⟨14, some 21, .bin .leq (.t 19) (.t 20), some (17, true), []⟩,
 ⟨15, some 22, .pick (.t 17) (.t 21) (.k (.sc (.bool false))), none, []⟩,
 ⟨16, some 23, .mv (.t 22), none, []⟩,
 ⟨17, some 24, .faddr 1 (.t 3), some (23, true), []⟩,
 ⟨18, some 25, .load none (.t 24), some (23, true), []⟩,
 ⟨19, some 26, .faddr 0 (.t 3), some (23, true), []⟩,
 ⟨20, some 27, .load none (.t 26), some (23, true), []⟩,
 ⟨21, some 28, .bin .sub (.t 25) (.t 27), some (23, true), []⟩,
 ⟨22, some 29, .mv (.t 2), some (23, true), []⟩,
 ⟨23, some 30, .bin .leq (.t 28) (.t 29), some (23, true), []⟩,
 ⟨24, some 31, .pick (.t 23) (.t 30) (.k (.sc (.bool false))), none, []⟩,
 ⟨25, some 6, .mv (.t 31), none, []⟩] false [6])
 (.ret))), false⟩
def a2q : AC :=
 (.seq (.region 0 [
 ⟨0, some 10, .bin .lss (.t 9) (.t 8), none, []⟩] false [0, 7, 8, 9, 10])
 (.seq (.cond (.t 10)
 (.skip)
 (.exit 0))
 (.seq (.block 1 (.seq (.region 0 [
 ⟨0, some 11, .iaddr 1 (.t 7) (.t 9), none, []⟩,
 ⟨1, some 12, .load none (.t 11), none, []⟩,
 ⟨2, some 6, .mv (.t 12), none, []⟩] false [0, 6, 7, 8, 9])
 (.region 0 [
 ⟨0, some 13, .mv (.t 0), none, []⟩,
 ⟨1, some 14, .mv (.t 6), none, []⟩,
 ⟨2, some 15, .min (.t 13) [.t 14], none, []⟩,
 ⟨3, some 0, .mv (.t 15), none, []⟩] false [0, 7, 8, 9])))
 (.region 0 [
 ⟨0, some 16, .bin .add (.t 9) (.k (.sc (.int .i64 1))), none, []⟩,
 ⟨1, some 9, .mv (.t 16), none, []⟩] false [0, 7, 8, 9]))))
def a6M : AC := .loop [0, 7, 8, 9] a2q
def a4J : Fn := ⟨2, 18, [(4, none)],
 (.seq (.region 0 [
 ⟨0, some 4, .mv (.k (.sc (.int .i64 0))), none, []⟩] false [0, 1])
 (.seq (.seq (.region 0 [
 ⟨0, some 7, .mv (.t 1), none, []⟩,
 ⟨1, some 8, .len 1 (.t 7), none, []⟩,
 ⟨2, some 9, .mv (.k (.sc (.int .i64 0))), none, []⟩] false [0, 7, 8, 9])
 (.block 0 (a6M)))
 (.seq (.region 0 [
 ⟨0, some 17, .mv (.t 0), none, []⟩,
 ⟨1, some 4, .mv (.t 17), none, []⟩] false [4])
 (.ret)))), false⟩
def a3s : AC :=
 (.seq (.seq (.region 0 [
 ⟨0, some 15, .mv (.t 6), none, []⟩,
 ⟨1, some 16, .faddr 0 (.t 2), none, []⟩,
 ⟨2, some 17, .faddr 7 (.t 16), none, []⟩,
 ⟨3, some 18, .load none (.t 17), none, []⟩,
 ⟨4, some 19, .len 1 (.t 18), none, []⟩,
 ⟨5, some 20, .bin .lss (.t 15) (.t 19), none, []⟩] false [1, 2, 5, 6, 20])
 (.cond (.t 20)
 (.skip)
 (.exit 0)))
 (.seq (.block 1 (.seq (.region 0 [
 ⟨0, some 23, .faddr 10 (.t 2), none, []⟩,
 ⟨1, some 24, .load none (.t 23), none, []⟩,
 ⟨2, some 25, .mv (.t 6), none, []⟩,
 ⟨3, some 26, .mv (.t 1), none, []⟩,
 ⟨4, some 27, .build [.int .i64 0, .int .i64 0] [(0, 1, .t 25), (1, 1, .t 26)], none, []⟩,
 ⟨5, some 28, .slook 2 (.t 24) (.t 27), none, []⟩,
 ⟨6, some 29, .un .not (.t 28), none, []⟩] false [1, 2, 5, 6, 29])
 (.cond (.t 29)
 (.region 0 [
 ⟨0, some 30, .mv (.tk 5), none, []⟩,
 ⟨1, some 31, .mv (.t 6), none, []⟩,
 ⟨2, some 32, .mv (.t 1), none, []⟩,
 ⟨3, some 33, .build [.int .i64 0, .int .i64 0] [(0, 1, .t 31), (1, 1, .t 32)], none, []⟩,
 ⟨4, some 34, .bslice 2 1 [.int .i64 0, .int .i64 0] [(0, .t 33)], none, []⟩,
 ⟨5, some 35, .append 2 (.tk 30) (.t 34), none, []⟩,
 ⟨6, some 5, .mv (.tk 35), none, []⟩] false [1, 2, 5, 6])
 (.skip))))
 (.region 0 [
 ⟨0, some 21, .mv (.t 6), none, []⟩,
 ⟨1, some 22, .bin .add (.t 21) (.k (.sc (.int .i64 1))), none, []⟩,
 ⟨2, some 6, .mv (.t 22), none, []⟩] false [1, 2, 5, 6])))
def a6C : AC := .loop [1, 2, 5, 6] a3s
def a0T : AC :=
 (.seq (.region 0 [
 ⟨0, some 45, .bin .lss (.t 44) (.t 43), none, []⟩] false [1, 2, 5, 7, 8, 9, 38, 39, 42, 43, 44, 45])
 (.seq (.cond (.t 45)
 (.skip)
 (.exit 4))
 (.seq (.block 5 (.seq (.region 1 [
 ⟨0, some 46, .mv (.t 44), none, []⟩,
 ⟨1, some 47, .iaddr 2 (.t 42) (.t 44), none, []⟩,
 ⟨2, some 48, .load (some 2) (.t 47), none, []⟩,
 ⟨3, some 11, .alloc 0 [.int .i64 0, .int .i64 0], none, []⟩,
 ⟨4, some 10, .mv (.t 46), none, []⟩,
 ⟨5, none, .store 2 (.t 11) (.t 48), none, []⟩] false [1, 2, 5, 7, 8, 9, 10, 11, 38, 39, 42, 43, 44])
 (.seq (.region 0 [
 ⟨0, some 49, .mv (.t 8), none, []⟩,
 ⟨1, some 50, .mv (.t 10), none, []⟩,
 ⟨2, some 51, .bin .shr (.t 49) (.t 50), none, []⟩,
 ⟨3, some 52, .bin .and (.t 51) (.k (.sc (.int .i64 1))), none, []⟩,
 ⟨4, some 53, .bin .eql (.t 52) (.k (.sc (.int .i64 1))), none, []⟩] false [1, 2, 5, 7, 8, 9, 11, 38, 39, 42, 43, 44, 53])
 (.cond (.t 53)
 (.region 0 [
 ⟨0, some 54, .mv (.tk 9), none, []⟩,
 ⟨1, some 55, .load (some 2) (.t 11), none, []⟩,
 ⟨2, some 56, .bslice 2 1 [.int .i64 0, .int .i64 0] [(0, .t 55)], none, []⟩,
 ⟨3, some 57, .append 2 (.tk 54) (.t 56), none, []⟩,
 ⟨4, some 9, .mv (.tk 57), none, []⟩] false [1, 2, 5, 7, 8, 9, 38, 39, 42, 43, 44])
 (.skip)))))
 (.region 0 [
 ⟨0, some 58, .bin .add (.t 44) (.k (.sc (.int .i64 1))), none, []⟩,
 ⟨1, some 44, .mv (.t 58), none, []⟩] false [1, 2, 5, 7, 8, 9, 38, 39, 42, 43, 44]))))
def a6E : AC := .loop [1, 2, 5, 7, 8, 9, 38, 39, 42, 43, 44] a0T
def a3t : AC :=
 (.seq (.region 0 [
 ⟨0, some 40, .bin .lss (.t 39) (.t 38), none, []⟩] false [1, 2, 5, 7, 38, 39, 40])
 (.seq (.cond (.t 40)
 (.skip)
 (.exit 2))
 (.seq (.block 3 (.seq (.region 0 [
 ⟨0, some 41, .mv (.t 39), none, []⟩,
 ⟨1, some 8, .mv (.t 41), none, []⟩] false [1, 2, 5, 7, 8, 38, 39])
 (.seq (.region 0 [
 ⟨0, some 9, .mv (.k (.sc (.sl .nil 2 []))), none, []⟩] false [1, 2, 5, 7, 8, 9, 38, 39])
 (.seq (.seq (.region 0 [
 ⟨0, some 42, .mv (.t 5), none, []⟩,
 ⟨1, some 43, .len 1 (.t 42), none, []⟩,
 ⟨2, some 44, .mv (.k (.sc (.int .i64 0))), none, []⟩] false [1, 2, 5, 7, 8, 9, 38, 39, 42, 43, 44])
 (.block 4 (a6E)))
 (.seq (.region 0 [
 ⟨0, some 59, .load (some 12) (.t 2), none, []⟩,
 ⟨1, some 60, .mv (.t 1), none, []⟩,
 ⟨2, some 61, .faddr 10 (.t 2), none, []⟩,
 ⟨3, some 62, .load none (.t 61), none, []⟩,
 ⟨4, some 63, .mv (.t 9), none, []⟩,
 ⟨5, some 64, .call true (.f 121) [.t 62, .t 63], none, []⟩,
 ⟨6, some 65, .call true (.f 122) [.t 59, .t 60, .t 64], none, []⟩] true [1, 2, 5, 7, 9, 38, 39, 65])
 (.cond (.t 65)
 (.region 0 [
 ⟨0, some 66, .mv (.tk 7), none, []⟩,
 ⟨1, some 67, .mv (.t 9), none, []⟩,
 ⟨2, some 68, .bslice 1 1 [.sl .nil 2 []] [(0, .t 67)], none, []⟩,
 ⟨3, some 69, .append 1 (.tk 66) (.t 68), none, []⟩,
 ⟨4, some 7, .mv (.tk 69), none, []⟩] false [1, 2, 5, 7, 38, 39])
 (.skip)))))))
 (.region 0 [
 ⟨0, some 70, .bin .add (.t 39) (.k (.sc (.int .i64 1))), none, []⟩,
 ⟨1, some 39, .mv (.t 70), none, []⟩] false [1, 2, 5, 7, 38, 39]))))
def a6D : AC := .loop [1, 2, 5, 7, 38, 39] a3t
def a4f : Fn := ⟨2, 72, [(4, none)],
 (.seq (.region 1 [
 ⟨0, some 2, .box 0 (.t 0), none, []⟩,
 ⟨1, some 4, .mv (.k (.sc (.sl .nil 1 []))), none, []⟩] false [1, 2])
 (.seq (.region 0 [
 ⟨0, some 5, .mv (.k (.sc (.sl .nil 2 []))), none, []⟩] false [1, 2, 5])
 (.seq (.seq (.region 0 [
 ⟨0, some 12, .faddr 0 (.t 2), none, []⟩,
 ⟨1, some 13, .load (some 10) (.t 12), none, []⟩,
 ⟨2, some 14, .call true (.f 112) [.t 13], none, []⟩,
 ⟨3, some 6, .mv (.t 14), none, []⟩] false [1, 2, 5, 6])
 (.block 0 (a6C)))
 (.seq (.region 0 [
 ⟨0, some 7, .mv (.k (.sc (.sl .nil 1 []))), none, []⟩] false [1, 2, 5, 7])
 (.seq (.seq (.region 0 [
 ⟨0, some 36, .mv (.t 5), none, []⟩,
 ⟨1, some 37, .len 1 (.t 36), none, []⟩,
 ⟨2, some 38, .bin .shl (.k (.sc (.int .i64 1))) (.t 37), none, []⟩,
 ⟨3, some 39, .mv (.k (.sc (.int .i64 0))), none, []⟩] false [1, 2, 5, 7, 38, 39])
 (.block 2 (a6D)))
 (.seq (.region 0 [
 ⟨0, some 71, .mv (.t 7), none, []⟩,
 ⟨1, some 4, .mv (.t 71), none, []⟩] false [4])
 (.ret))))))), false⟩
def a5L : Fn := ⟨0, 2, [(0, some (some 1))],
 (.seq (.region 1 [
 ⟨0, some 0, .alloc 0 [.nilf], none, []⟩] false [0])
 (.seq (.region 0 [
 ⟨0, some 1, .build [.nilf] [(0, 1, .f 160)], none, []⟩,
 ⟨1, none, .store 1 (.t 0) (.t 1), none, []⟩] false [0])
 (.ret))), false⟩
def a0X : Fn := ⟨2, 14, [],
 (.seq (.region 0 [
 ⟨0, some 5, .mv (.t 0), none, []⟩,
 ⟨1, some 6, .len 1 (.t 5), none, []⟩,
 ⟨2, some 4, .mv (.t 6), none, []⟩] false [0, 1, 4])
 (.region 0 [
 ⟨0, some 7, .mv (.t 0), none, []⟩,
 ⟨1, some 8, .mv (.t 4), none, []⟩,
 ⟨2, some 9, .mv (.t 4), none, []⟩,
 ⟨3, some 10, .conv .u64 (.t 9), none, []⟩,
 ⟨4, some 11, .call true (.f 161) [.t 10], none, []⟩,
 ⟨5, some 12, .mv (.t 1), none, []⟩,
 ⟨6, some 13, .call false (.f 162) [.t 7, .k (.sc (.int .i64 0)), .t 8, .t 11, .t 12], none, []⟩] false [])), false⟩
def a5u : Fn := ⟨2, 17, [(4, none)],
 (.seq (.region 2 [
 ⟨0, some 2, .box 0 (.t 0), none, []⟩,
 ⟨1, some 3, .box 1 (.t 1), none, []⟩,
 ⟨2, some 4, .mv (.k (.sc (.int .i64 0))), none, []⟩] false [2, 3])
 (.seq (.region 0 [
 ⟨0, some 5, .faddr 0 (.t 2), none, []⟩,
 ⟨1, some 6, .load none (.t 5), none, []⟩,
 ⟨2, some 7, .faddr 0 (.t 3), none, []⟩,
 ⟨3, some 8, .load none (.t 7), none, []⟩,
 ⟨4, some 9, .call true (.f 163) [.t 6, .t 8], none, []⟩,
 ⟨5, some 10, .faddr 1 (.t 2), none, []⟩,
 ⟨6, some 11, .load none (.t 10), none, []⟩,
 ⟨7, some 12, .faddr 1 (.t 3), none, []⟩,
 ⟨8, some 13, .load none (.t 12), none, []⟩,
 ⟨9, some 14, .call true (.f 163) [.t 11, .t 13], none, []⟩,
 ⟨10, some 15, .bslice 1 2 [.int .i64 0] [(0, .t 9), (1, .t 14)], none, []⟩,
 ⟨11, some 16, .call true (.f 164) [.t 15], none, []⟩,
 ⟨12, some 4, .mv (.t 16), none, []⟩] true [4])
 (.ret))), false⟩
def a1r : AC :=
 (.seq (.region 0 [
 ⟨0, some 18, .bin .lss (.t 17) (.t 16), none, []⟩] false [2, 3, 4, 5, 6, 15, 16, 17, 18])
 (.seq (.cond (.t 18)
 (.skip)
 (.exit 0))
 (.seq (.block 1 (.seq (.region 1 [
 ⟨0, some 19, .mv (.t 17), none, []⟩,
 ⟨1, some 20, .iaddr 4 (.t 15) (.t 17), none, []⟩,
 ⟨2, some 21, .load (some 4) (.t 20), none, []⟩,
 ⟨3, some 12, .alloc 0 [.int .i64 0, .int .i64 0, .int .i64 0, .int .i64 0], none, []⟩,
 ⟨4, some 11, .mv (.t 19), none, []⟩,
 ⟨5, none, .store 4 (.t 12) (.t 21), none, []⟩] false [2, 3, 4, 5, 6, 11, 12, 15, 16, 17])
 (.seq (.region 0 [
 ⟨0, some 22, .faddr 0 (.t 12), none, []⟩,
 ⟨1, some 23, .load none (.t 22), none, []⟩,
 ⟨2, some 24, .mv (.t 2), none, []⟩,
 ⟨3, some 25, .bin .eql (.t 23) (.t 24), none, []⟩,
 ⟨4, some 26, .mv (.t 25), none, []⟩,
 ⟨5, some 27, .mv (.t 4), some (26, true), []⟩,
 ⟨6, some 28, .mv (.t 11), some (26, true), []⟩,
 ⟨7, some 29, .call true (.f 76) [.t 27, .t 28], some (26, true), []⟩,
 ⟨8, some 30, .un .not (.t 29), some (26, true), []⟩,
 ⟨9, some 31, .pick (.t 26) (.t 30) (.k (.sc (.bool false))), none, []⟩,
 ⟨10, some 32, .mv (.t 31), none, []⟩,
 ⟨11, some 33, .faddr 2 (.t 12), some (32, true), []⟩,
 ⟨12, some 34, .load none (.t 33), some (32, true), []⟩,
 ⟨13, some 35, .load (some 12) (.t 5), some (32, true), []⟩,
 ⟨14, some 36, .load (some 3) (.t 6), some (32, true), []⟩,
 ⟨15, some 37, .mv (.t 2), some (32, true), []⟩,
 ⟨16, some 38, .mv (.t 3), some (32, true), []⟩,
 ⟨17, some 39, .faddr 1 (.t 12), some (32, true), []⟩,
 ⟨18, some 40, .load none (.t 39), some (32, true), []⟩,
 ⟨19, some 41, .faddr 10 (.t 5), some (32, true), []⟩,
 ⟨20, some 42, .load none (.t 41), some (32, true), []⟩,
 ⟨21, some 43, .call true (.f 188) [.t 35, .t 36, .t 37, .t 38, .t 40, .t 42], some (32, true), []⟩,
 ⟨22, some 44, .bin .sub (.t 34) (.t 43), some (32, true), []⟩,
 ⟨23, some 45, .faddr 3 (.t 12), some (32, true), []⟩,
 ⟨24, some 46, .load none (.t 45), some (32, true), []⟩,
 ⟨25, some 47, .un .neg (.t 46), some (32, true), []⟩,
 ⟨26, some 48, .faddr 3 (.t 12), some (32, true), []⟩,
 ⟨27, some 49, .load none (.t 48), some (32, true), []⟩,
 ⟨28, some 50, .call true (.f 150) [.t 44, .t 47, .t 49], some (32, true), []⟩,
 ⟨29, some 51, .un .not (.t 50), some (32, true), []⟩,
 ⟨30, some 52, .pick (.t 32) (.t 51) (.k (.sc (.bool false))), none, []⟩] true [2, 3, 4, 5, 6, 15, 16, 17, 52])
 (.cond (.t 52)
 (.seq (.region 0 [
 ⟨0, some 10, .mv (.k (.sc (.bool false))), none, []⟩] false [10])
 (.ret))
 (.skip)))))
 (.region 0 [
 ⟨0, some 53, .bin .add (.t 17) (.k (.sc (.int .i64 1))), none, []⟩,
 ⟨1, some 17, .mv (.t 53), none, []⟩] false [2, 3, 4, 5, 6, 15, 16, 17]))))
def a6F : AC := .loop [2, 3, 4, 5, 6, 15, 16, 17] a1r
def a3m : Fn := ⟨5, 54, [(10, none)],
 (.seq (.region 2 [
 ⟨0, some 5, .box 0 (.t 0), none, []⟩,
 ⟨1, some 6, .box 1 (.t 1), none, []⟩,
 ⟨2, some 10, .mv (.k (.sc (.bool false))), none, []⟩] false [2, 3, 4, 5, 6])
 (.seq (.seq (.region 0 [
 ⟨0, some 13, .faddr 0 (.t 5), none, []⟩,
 ⟨1, some 14, .faddr 9 (.t 13), none, []⟩,
 ⟨2, some 15, .load none (.t 14), none, []⟩,
 ⟨3, some 16, .len 1 (.t 15), none, []⟩,
 ⟨4, some 17, .mv (.k (.sc (.int .i64 0))), none, []⟩] false [2, 3, 4, 5, 6, 15, 16, 17])
 (.block 0 (a6F)))
 (.seq (.region 0 [
 ⟨0, some 10, .mv (.k (.sc (.bool true))), none, []⟩] false [10])
 (.ret)))), false⟩
def a3W : Fn := ⟨1, 4, [(2, none)],
 (.seq (.region 1 [
 ⟨0, some 1, .box 0 (.t 0), none, []⟩,
 ⟨1, some 2, .mv (.k (.sc .nilf)), none, []⟩] false [1])
 (.frz 1 (.seq (.region 0 [
 ⟨0, some 3, .mkf 190 [] [] [.t 1], none, []⟩,
 ⟨1, some 2, .mv (.t 3), none, []⟩] false [2])
 (.ret)))), false⟩
def a0J : AC :=
 (.seq (.seq (.region 0 [
 ⟨0, some 12, .mv (.t 9), none, []⟩,
 ⟨1, some 13, .mv (.t 2), none, []⟩,
 ⟨2, some 14, .bin .leq (.t 12) (.t 13), none, []⟩] false [1, 2, 3, 4, 9, 14])
 (.cond (.t 14)
 (.skip)
 (.exit 0)))
 (.seq (.block 1 (.seq (.region 0 [
 ⟨0, some 17, .mv (.t 9), none, []⟩,
 ⟨1, some 18, .bin .lss (.t 17) (.k (.sc (.int .i64 0))), none, []⟩,
 ⟨2, some 19, .mv (.t 18), none, []⟩,
 ⟨3, some 20, .faddr 0 (.t 4), some (19, false), []⟩,
 ⟨4, some 21, .faddr 7 (.t 20), some (19, false), []⟩,
 ⟨5, some 22, .load none (.t 21), some (19, false), []⟩,
 ⟨6, some 23, .mv (.t 9), some (19, false), []⟩,
 ⟨7, some 24, .iaddr 3 (.t 22) (.t 23), some (19, false), []⟩,
 ⟨8, some 25, .faddr 1 (.t 24), some (19, false), []⟩,
 ⟨9, some 26, .load none (.t 25), some (19, false), []⟩,
 ⟨10, some 27, .bin .eql (.t 26) (.k (.sc (.int .i64 0))), some (19, false), []⟩,
 ⟨11, some 28, .pick (.t 19) (.k (.sc (.bool true))) (.t 27), none, []⟩,
 ⟨12, some 29, .mv (.t 28), none, []⟩,
 ⟨13, some 30, .mv (.t 3), some (29, false), []⟩,
 ⟨14, some 31, .mv (.t 9), some (29, false), []⟩,
 ⟨15, some 32, .mv (.t 1), some (29, false), []⟩,
 ⟨16, some 33, .build [.int .i64 0, .int .i64 0] [(0, 1, .t 31), (1, 1, .t 32)], some (29, false), []⟩,
 ⟨17, some 34, .slook 2 (.t 30) (.t 33), some (29, false), []⟩,
 ⟨18, some 35, .pick (.t 29) (.k (.sc (.bool true))) (.t 34), none, []⟩] false [1, 2, 3, 4, 9, 35])
 (.cond (.t 35)
 (.seq (.region 0 [
 ⟨0, some 8, .mv (.k (.sc (.bool false))), none, []⟩] false [8])
 (.ret))
 (.skip))))
 (.region 0 [
 ⟨0, some 15, .mv (.t 9), none, []⟩,
 ⟨1, some 16, .bin .add (.t 15) (.k (.sc (.int .i64 1))), none, []⟩,
 ⟨2, some 9, .mv (.t 16), none, []⟩] false [1, 2, 3, 4, 9])))
def a0K : AC := .loop [1, 2, 3, 4, 9] a0J
def a0N : Fn := ⟨4, 36, [(8, none)],
 (.seq (.region 1 [
 ⟨0, some 4, .box 0 (.t 0), none, []⟩,
 ⟨1, some 8, .mv (.k (.sc (.bool false))), none, []⟩] false [1, 2, 3, 4])
 (.seq (.seq (.region 0 [
 ⟨0, some 10, .mv (.t 2), none, []⟩,
 ⟨1, some 11, .bin .sub (.t 10) (.k (.sc (.int .i64 2))), none, []⟩,
 ⟨2, some 9, .mv (.t 11), none, []⟩] false [1, 2, 3, 4, 9])
 (.block 0 (a0K)))
 (.seq (.region 0 [
 ⟨0, some 8, .mv (.k (.sc (.bool true))), none, []⟩] false [8])
 (.ret)))), false⟩
def a0Z : AC :=
 (.seq (.region 0 [
 ⟨0, some 22, .bin .lss (.t 21) (.t 20), none, []⟩] false [2, 3, 5, 6, 7, 13, 14, 20, 21, 22])
 (.seq (.cond (.t 22)
 (.skip)
 (.exit 0))
 (.seq (.block 1 (.seq (.region 0 [
 ⟨0, some 23, .mv (.t 21), none, []⟩,
 ⟨1, some 15, .mv (.t 23), none, []⟩] false [2, 3, 5, 6, 7, 13, 15, 20, 21])
 (.seq (.region 0 [
 ⟨0, some 16, .mv (.k (.sc (.int .i64 1))), none, []⟩] false [2, 3, 5, 6, 7, 13, 15, 16, 20, 21])
 (.seq (.seq (.region 0 [
 ⟨0, some 24, .mv (.t 5), none, []⟩,
 ⟨1, some 25, .mv (.t 15), none, []⟩,
 ⟨2, some 26, .mv (.t 2), none, []⟩,
 ⟨3, some 27, .build [.int .i64 0, .int .i64 0] [(0, 1, .t 25), (1, 1, .t 26)], none, []⟩,
 ⟨4, some 28, .slook 2 (.t 24) (.t 27), none, []⟩] false [2, 3, 5, 6, 7, 13, 15, 16, 20, 21, 28])
 (.cond (.t 28)
 (.region 0 [
 ⟨0, some 16, .mv (.k (.sc (.int .i64 0))), none, []⟩] false [2, 3, 5, 6, 7, 13, 15, 16, 20, 21])
 (.skip)))
 (.seq (.region 0 [
 ⟨0, some 29, .mv (.t 16), none, []⟩,
 ⟨1, some 30, .iarr 2 1 (.g 4) (.t 29), none, []⟩,
 ⟨2, some 31, .load none (.t 30), none, []⟩,
 ⟨3, some 32, .load (some 3) (.t 7), none, []⟩,
 ⟨4, some 33, .mv (.t 13), none, []⟩,
 ⟨5, some 34, .faddr 0 (.t 6), none, []⟩,
 ⟨6, some 35, .faddr 7 (.t 34), none, []⟩,
 ⟨7, some 36, .load none (.t 35), none, []⟩,
 ⟨8, some 37, .mv (.t 15), none, []⟩,
 ⟨9, some 38, .iaddr 3 (.t 36) (.t 37), none, []⟩,
 ⟨10, some 39, .load (some 3) (.t 38), none, []⟩,
 ⟨11, some 40, .call true (.t 31) [.t 32, .t 33, .t 39], none, []⟩,
 ⟨12, some 14, .mv (.t 40), none, []⟩] true [2, 3, 5, 6, 7, 14, 20, 21])
 (.region 0 [
 ⟨0, some 41, .mv (.t 3), none, []⟩,
 ⟨1, some 42, .mv (.t 14), none, []⟩,
 ⟨2, some 43, .iarr 3 1 (.t 7) (.k (.sc (.int .i64 2))), none, []⟩,
 ⟨3, some 44, .load none (.t 43), none, []⟩,
 ⟨4, some 45, .bin .add (.t 42) (.t 44), none, []⟩,
 ⟨5, some 46, .bslice 1 1 [.int .i64 0] [(0, .t 45)], none, []⟩,
 ⟨6, some 47, .call true (.f 169) [.t 41, .t 46], none, []⟩,
 ⟨7, some 13, .mv (.t 47), none, []⟩] false [2, 3, 5, 6, 7, 13, 14, 20, 21]))))))
 (.region 0 [
 ⟨0, some 48, .bin .add (.t 21) (.k (.sc (.int .i64 1))), none, []⟩,
 ⟨1, some 21, .mv (.t 48), none, []⟩] false [2, 3, 5, 6, 7, 13, 14, 20, 21]))))
def a6J : AC := .loop [2, 3, 5, 6, 7, 13, 14, 20, 21] a0Z
def a4G : Fn := ⟨6, 50, [(12, none)],
 (.seq (.region 2 [
 ⟨0, some 6, .box 0 (.t 0), none, []⟩,
 ⟨1, some 7, .box 1 (.t 1), none, []⟩,
 ⟨2, some 12, .mv (.k (.sc (.int .i64 0))), none, []⟩] false [2, 3, 4, 5, 6, 7])
 (.seq (.region 0 [
 ⟨0, some 17, .mv (.t 3), none, []⟩,
 ⟨1, some 18, .mv (.t 3), none, []⟩,
 ⟨2, some 13, .mv (.t 17), none, []⟩,
 ⟨3, some 14, .mv (.t 18), none, []⟩] false [2, 3, 4, 5, 6, 7, 13, 14])
 (.seq (.seq (.region 0 [
 ⟨0, some 19, .mv (.t 4), none, []⟩,
 ⟨1, some 20, .bin .add (.t 19) (.k (.sc (.int .i64 1))), none, []⟩,
 ⟨2, some 21, .mv (.k (.sc (.int .i64 0))), none, []⟩] false [2, 3, 5, 6, 7, 13, 14, 20, 21])
 (.block 0 (a6J)))
 (.seq (.region 0 [
 ⟨0, some 49, .mv (.t 14), none, []⟩,
 ⟨1, some 12, .mv (.t 49), none, []⟩] false [12])
 (.ret))))), false⟩
def a2f : AC :=
 (.seq (.seq (.region 0 [
 ⟨0, some 12, .mv (.t 4), none, []⟩,
 ⟨1, some 13, .mv (.t 0), none, []⟩,
 ⟨2, some 14, .len 1 (.t 13), none, []⟩,
 ⟨3, some 15, .bin .lss (.t 12) (.t 14), none, []⟩] false [0, 3, 4, 15])
 (.cond (.t 15)
 (.skip)
 (.exit 0)))
 (.seq (.block 1 (.region 0 [
 ⟨0, some 18, .mv (.t 3), none, []⟩,
 ⟨1, some 19, .mv (.t 0), none, []⟩,
 ⟨2, some 20, .mv (.t 4), none, []⟩,
 ⟨3, some 21, .iaddr 1 (.t 19) (.t 20), none, []⟩,
 ⟨4, some 22, .load none (.t 21), none, []⟩,
 ⟨5, some 23, .max (.t 18) [.t 22], none, []⟩,
 ⟨6, some 3, .mv (.t 23), none, []⟩] false [0, 3, 4]))
 (.region 0 [
 ⟨0, some 16, .mv (.t 4), none, []⟩,
 ⟨1, some 17, .bin .add (.t 16) (.k (.sc (.int .i64 1))), none, []⟩,
 ⟨2, some 4, .mv (.t 17), none, []⟩] false [0, 3, 4])))
def a6d : AC := .loop [0, 3, 4] a2f
def a3S : Fn := ⟨1, 25, [(2, none)],
 (.seq (.region 0 [
 ⟨0, some 2, .mv (.k (.sc (.int .i64 0))), none, []⟩] false [0])
 (.seq (.seq (.region 0 [
 ⟨0, some 5, .mv (.t 0), none, []⟩,
 ⟨1, some 6, .len 1 (.t 5), none, []⟩,
 ⟨2, some 7, .bin .lss (.t 6) (.k (.sc (.int .i64 1))), none, []⟩] false [0, 7])
 (.cond (.t 7)
 (.stuck)
 (.skip)))
 (.seq (.region 0 [
 ⟨0, some 9, .mv (.t 0), none, []⟩,
 ⟨1, some 10, .iaddr 1 (.t 9) (.k (.sc (.int .i64 0))), none, []⟩,
 ⟨2, some 11, .load none (.t 10), none, []⟩,
 ⟨3, some 3, .mv (.t 11), none, []⟩] false [0, 3])
 (.seq (.seq (.region 0 [
 ⟨0, some 4, .mv (.k (.sc (.int .i64 1))), none, []⟩] false [0, 3, 4])
 (.block 0 (a6d)))
 (.seq (.region 0 [
 ⟨0, some 24, .mv (.t 3), none, []⟩,
 ⟨1, some 2, .mv (.t 24), none, []⟩] false [2])
 (.ret)))))), false⟩
def a1m : Fn := ⟨2, 9, [(4, none)],
 (.seq (.region 1 [
 ⟨0, some 3, .box 0 (.t 1), none, []⟩,
 ⟨1, some 4, .mv (.k (.sc (.bool false))), none, []⟩] false [0, 3])
 (.seq (.region 0 [
 ⟨0, some 5, .mv (.t 0), none, []⟩,
 ⟨1, some 6, .load (some 2) (.t 3), none, []⟩,
 ⟨2, some 7, .call true (.f 175) [.t 5, .t 6], none, []⟩,
 ⟨3, some 8, .bin .geq (.t 7) (.k (.sc (.int .i64 0))), none, []⟩,
 ⟨4, some 4, .mv (.t 8), none, []⟩] false [4])
 (.ret))), false⟩
def a5a : Fn := ⟨2, 16, [(4, none)],
 (.seq (.region 0 [
 ⟨0, some 4, .mv (.k (.sc (.bool false))), none, []⟩] false [0, 1])
 (.seq (.region 0 [
 ⟨0, some 5, .mv (.t 0), none, []⟩,
 ⟨1, some 6, .len 1 (.t 5), none, []⟩,
 ⟨2, some 7, .mv (.t 1), none, []⟩,
 ⟨3, some 8, .len 1 (.t 7), none, []⟩,
 ⟨4, some 9, .call true (.f 163) [.t 6, .t 8], none, []⟩,
 ⟨5, some 10, .mv (.t 0), none, []⟩,
 ⟨6, some 11, .mv (.t 1), none, []⟩,
 ⟨7, some 12, .call true (.f 176) [.t 10, .t 11, .f 131], none, []⟩,
 ⟨8, some 13, .bslice 1 2 [.int .i64 0] [(0, .t 9), (1, .t 12)], none, []⟩,
 ⟨9, some 14, .call true (.f 164) [.t 13], none, []⟩,
 ⟨10, some 15, .bin .lss (.t 14) (.k (.sc (.int .i64 0))), none, []⟩,
 ⟨11, some 4, .mv (.t 15), none, []⟩] false [4])
 (.ret))), false⟩
def a5H : AC :=
 (.seq (.region 0 [
 ⟨0, some 9, .bin .lss (.t 8) (.t 7), none, []⟩] false [3, 6, 7, 8, 9])
 (.seq (.cond (.t 9)
 (.skip)
 (.exit 0))
 (.seq (.block 1 (.seq (.region 0 [
 ⟨0, some 10, .iaddr 1 (.t 6) (.t 8), none, []⟩,
 ⟨1, some 11, .load none (.t 10), none, []⟩,
 ⟨2, some 5, .mv (.t 11), none, []⟩] false [3, 5, 6, 7, 8])
 (.seq (.region 0 [
 ⟨0, some 12, .mv (.t 5), none, []⟩,
 ⟨1, some 13, .mv (.t 3), none, []⟩,
 ⟨2, some 14, .bin .neq (.t 12) (.t 13), none, []⟩] false [3, 5, 6, 7, 8, 14])
 (.cond (.t 14)
 (.seq (.region 0 [
 ⟨0, some 15, .mv (.t 5), none, []⟩,
 ⟨1, some 2, .mv (.t 15), none, []⟩] false [2])
 (.ret))
 (.skip)))))
 (.region 0 [
 ⟨0, some 16, .bin .add (.t 8) (.k (.sc (.int .i64 1))), none, []⟩,
 ⟨1, some 8, .mv (.t 16), none, []⟩] false [3, 6, 7, 8]))))
def a5I : AC := .loop [3, 6, 7, 8] a5H
def a5n : Fn := ⟨1, 18, [(2, none)],
 (.seq (.region 0 [
 ⟨0, some 2, .mv (.k (.sc (.int .i64 0))), none, []⟩] false [0])
 (.seq (.region 0 [
 ⟨0, some 3, .mv (.k (.sc (.int .i64 0))), none, []⟩] false [0, 3])
 (.seq (.seq (.region 0 [
 ⟨0, some 6, .mv (.t 0), none, []⟩,
 ⟨1, some 7, .len 1 (.t 6), none, []⟩,
 ⟨2, some 8, .mv (.k (.sc (.int .i64 0))), none, []⟩] false [3, 6, 7, 8])
 (.block 0 (a5I)))
 (.seq (.region 0 [
 ⟨0, some 17, .mv (.t 3), none, []⟩,
 ⟨1, some 2, .mv (.t 17), none, []⟩] false [2])
 (.ret))))), false⟩
def cmp_Compare_int : Fn := ⟨2, 20, [(4, none)],
 (.seq (.region 0 [
 ⟨0, some 4, .mv (.k (.sc (.int .i64 0))), none, []⟩] false [0, 1])
 (.seq (.region 0 [
 ⟨0, some 7, .mv (.t 0), none, []⟩,
 ⟨1, some 8, .call true (.f 177) [.t 7], none, []⟩,
 ⟨2, some 5, .mv (.t 8), none, []⟩] false [0, 1, 5])
 (.seq (.region 0 [
 ⟨0, some 9, .mv (.t 1), none, []⟩,
 ⟨1, some 10, .call true (.f 177) [.t 9], none, []⟩,
 ⟨2, some 6, .mv (.t 10), none, []⟩] false [0, 1, 5, 6])
 (.seq (.seq (.region 0 [
 ⟨0, some 11, .mv (.t 5), none, []⟩] false [0, 1, 6, 11])
 (.cond (.t 11)
 (.seq (.seq (.region 0 [
 ⟨0, some 12, .mv (.t 6), none, []⟩] false [12])
 (.cond (.t 12)
 (.seq (.region 0 [
 ⟨0, some 4, .mv (.k (.sc (.int .i64 0))), none, []⟩] false [4])
 (.ret))
 (.skip)))
 (.seq (.region 0 [
 ⟨0, some 4, .mv (.k (.sc (.int .i64 (-1)))), none, []⟩] false [4])
 (.ret)))
 (.skip)))
 (.seq (.seq (.region 0 [
 ⟨0, some 13, .mv (.t 6), none, []⟩] false [0, 1, 13])
 (.cond (.t 13)
 (.seq (.region 0 [
 ⟨0, some 4, .mv (.k (.sc (.int .i64 1))), none, []⟩] false [4])
 (.ret))
 (.skip)))
 (.seq (.seq (.region 0 [
 ⟨0, some 14, .mv (.t 0), none, []⟩,
 ⟨1, some 15, .mv (.t 1), none, []⟩,
 ⟨2, some 16, .bin .lss (.t 14) (.t 15), none, []⟩] false [0, 1, 16])
 (.cond (.t 16)
 (.seq (.region 0 [
 ⟨0, some 4, .mv (.k (.sc (.int .i64 (-1)))), none, []⟩] false [4])
 (.ret))
 (.skip)))
 (.seq (.seq (.region 0 [
 ⟨0, some 17, .mv (.t 0), none, []⟩,
 ⟨1, some 18, .mv (.t 1), none, []⟩,
 ⟨2, some 19, .bin .gtr (.t 17) (.t 18), none, []⟩] false [19])
 (.cond (.t 19)
 (.seq (.region 0 [
 ⟨0, some 4, .mv (.k (.sc (.int .i64 1))), none, []⟩] false [4])
 (.ret))
 (.skip)))
 (.seq (.region 0 [
 ⟨0, some 4, .mv (.k (.sc (.int .i64 0))), none, []⟩] false [4])
 (.ret))))))))), false⟩
def a0i : AC :=
 (.seq (.region 0 [
 ⟨0, some 14, .bin .lss (.t 13) (.t 12), none, []⟩] false [0, 1, 2, 11, 12, 13, 14])
 (.seq (.cond (.t 14)
 (.skip)
 (.exit 0))
 (.seq (.block 1 (.seq (.region 1 [
 ⟨0, some 15, .mv (.t 13), none, []⟩,
 ⟨1, some 16, .iaddr 2 (.t 11) (.t 13), none, []⟩,
 ⟨2, some 17, .load (some 2) (.t 16), none, []⟩,
 ⟨3, some 8, .alloc 0 [.int .i64 0, .int .i64 0], none, []⟩,
 ⟨4, some 7, .mv (.t 15), none, []⟩,
 ⟨5, none, .store 2 (.t 8) (.t 17), none, []⟩] false [0, 1, 2, 7, 8, 11, 12, 13])
 (.seq (.seq (.region 0 [
 ⟨0, some 18, .mv (.t 7), none, []⟩,
 ⟨1, some 19, .mv (.t 1), none, []⟩,
 ⟨2, some 20, .len 1 (.t 19), none, []⟩,
 ⟨3, some 21, .bin .geq (.t 18) (.t 20), none, []⟩] false [0, 1, 2, 7, 8, 11, 12, 13, 21])
 (.cond (.t 21)
 (.seq (.region 0 [
 ⟨0, some 6, .mv (.k (.sc (.int .i64 1))), none, []⟩] false [6])
 (.ret))
 (.skip)))
 (.seq (.region 1 [
 ⟨0, some 22, .mv (.t 1), none, []⟩,
 ⟨1, some 23, .mv (.t 7), none, []⟩,
 ⟨2, some 24, .iaddr 2 (.t 22) (.t 23), none, []⟩,
 ⟨3, some 25, .load (some 2) (.t 24), none, []⟩,
 ⟨4, some 9, .alloc 0 [.int .i64 0, .int .i64 0], none, []⟩,
 ⟨5, none, .store 2 (.t 9) (.t 25), none, []⟩] false [0, 1, 2, 8, 9, 11, 12, 13])
 (.seq (.region 0 [
 ⟨0, some 26, .mv (.t 2), none, []⟩,
 ⟨1, some 27, .load (some 2) (.t 8), none, []⟩,
 ⟨2, some 28, .load (some 2) (.t 9), none, []⟩,
 ⟨3, some 29, .call true (.t 26) [.t 27, .t 28], none, []⟩,
 ⟨4, some 10, .mv (.t 29), none, []⟩] false [0, 1, 2, 10, 11, 12, 13])
 (.seq (.region 0 [
 ⟨0, some 30, .mv (.t 10), none, []⟩,
 ⟨1, some 31, .bin .neq (.t 30) (.k (.sc (.int .i64 0))), none, []⟩] false [0, 1, 2, 10, 11, 12, 13, 31])
 (.cond (.t 31)
 (.seq (.region 0 [
 ⟨0, some 32, .mv (.t 10), none, []⟩,
 ⟨1, some 6, .mv (.t 32), none, []⟩] false [6])
 (.ret))
 (.skip))))))))
 (.region 0 [
 ⟨0, some 33, .bin .add (.t 13) (.k (.sc (.int .i64 1))), none, []⟩,
 ⟨1, some 13, .mv (.t 33), none, []⟩] false [0, 1, 2, 11, 12, 13]))))
def a1V : AC := .loop [0, 1, 2, 11, 12, 13] a0i
def a0D : Fn := ⟨3, 39, [(6, none)],
 (.seq (.region 0 [
 ⟨0, some 6, .mv (.k (.sc (.int .i64 0))), none, []⟩] false [0, 1, 2])
 (.seq (.seq (.region 0 [
 ⟨0, some 11, .mv (.t 0), none, []⟩,
 ⟨1, some 12, .len 1 (.t 11), none, []⟩,
 ⟨2, some 13, .mv (.k (.sc (.int .i64 0))), none, []⟩] false [0, 1, 2, 11, 12, 13])
 (.block 0 (a1V)))
 (.seq (.seq (.region 0 [
 ⟨0, some 34, .mv (.t 0), none, []⟩,
 ⟨1, some 35, .len 1 (.t 34), none, []⟩,
 ⟨2, some 36, .mv (.t 1), none, []⟩,
 ⟨3, some 37, .len 1 (.t 36), none, []⟩,
 ⟨4, some 38, .bin .lss (.t 35) (.t 37), none, []⟩] false [38])
 (.cond (.t 38)
 (.seq (.region 0 [
 ⟨0, some 6, .mv (.k (.sc (.int .i64 (-1)))), none, []⟩] false [6])
 (.ret))
 (.skip)))
 (.seq (.region 0 [
 ⟨0, some 6, .mv (.k (.sc (.int .i64 0))), none, []⟩] false [6])
 (.ret))))), false⟩
def a1X : AC :=
 (.block 1 (.seq (.region 0 [
 ⟨0, some 21, .mv (.t 2), none, []⟩,
 ⟨1, some 22, .mv (.t 1), none, []⟩,
 ⟨2, some 23, .bin .sub (.t 21) (.t 22), none, []⟩,
 ⟨3, some 12, .mv (.t 23), none, []⟩] false [0, 1, 2, 3, 4, 10, 11, 12])
 (.seq (.seq (.region 0 [
 ⟨0, some 24, .mv (.t 12), none, []⟩,
 ⟨1, some 25, .bin .leq (.t 24) (.k (.sc (.int .i64 12))), none, []⟩] false [0, 1, 2, 3, 4, 10, 11, 12, 25])
 (.cond (.t 25)
 (.seq (.region 0 [
 ⟨0, some 26, .mv (.t 0), none, []⟩,
 ⟨1, some 27, .mv (.t 1), none, []⟩,
 ⟨2, some 28, .mv (.t 2), none, []⟩,
 ⟨3, some 29, .mv (.t 4), none, []⟩,
 ⟨4, some 30, .call false (.f 178) [.t 26, .t 27, .t 28, .t 29], none, []⟩] false [])
 (.ret))
 (.skip)))
 (.seq (.seq (.region 0 [
 ⟨0, some 31, .mv (.t 3), none, []⟩,
 ⟨1, some 32, .bin .eql (.t 31) (.k (.sc (.int .i64 0))), none, []⟩] false [0, 1, 2, 3, 4, 10, 11, 12, 32])
 (.cond (.t 32)
 (.seq (.region 0 [
 ⟨0, some 33, .mv (.t 0), none, []⟩,
 ⟨1, some 34, .mv (.t 1), none, []⟩,
 ⟨2, some 35, .mv (.t 2), none, []⟩,
 ⟨3, some 36, .mv (.t 4), none, []⟩,
 ⟨4, some 37, .call false (.f 179) [.t 33, .t 34, .t 35, .t 36], none, []⟩] false [])
 (.ret))
 (.skip)))
 (.seq (.seq (.region 0 [
 ⟨0, some 38, .mv (.t 10), none, []⟩,
 ⟨1, some 39, .un .not (.t 38), none, []⟩] false [0, 1, 2, 3, 4, 10, 11, 12, 39])
 (.cond (.t 39)
 (.seq (.region 0 [
 ⟨0, some 40, .mv (.t 0), none, []⟩,
 ⟨1, some 41, .mv (.t 1), none, []⟩,
 ⟨2, some 42, .mv (.t 2), none, []⟩,
 ⟨3, some 43, .mv (.t 4), none, []⟩,
 ⟨4, some 44, .call false (.f 180) [.t 40, .t 41, .t 42, .t 43], none, []⟩] false [0, 1, 2, 3, 4, 10, 11, 12])
 (.region 0 [
 ⟨0, some 45, .mv (.t 3), none, []⟩,
 ⟨1, some 46, .bin .sub (.t 45) (.k (.sc (.int .i64 1))), none, []⟩,
 ⟨2, some 3, .mv (.t 46), none, []⟩] false [0, 1, 2, 3, 4, 10, 11, 12]))
 (.skip)))
 (.seq (.region 0 [
 ⟨0, some 48, .mv (.t 0), none, []⟩,
 ⟨1, some 49, .mv (.t 1), none, []⟩,
 ⟨2, some 50, .mv (.t 2), none, []⟩,
 ⟨3, some 51, .mv (.t 4), none, []⟩,
 ⟨4, some 52, .call false (.f 181) [.t 48, .t 49, .t 50, .t 51], none, []⟩,
 ⟨5, some 47, .mv (.t 52), none, []⟩,
 ⟨6, some 53, .ext (.t 47) 0, none, []⟩,
 ⟨7, some 54, .ext (.t 47) 1, none, []⟩,
 ⟨8, some 13, .mv (.t 53), none, []⟩,
 ⟨9, some 14, .mv (.t 54), none, []⟩] false [0, 1, 2, 3, 4, 10, 11, 12, 13, 14])
 (.seq (.seq (.region 0 [
 ⟨0, some 55, .mv (.t 14), none, []⟩,
 ⟨1, some 56, .bin .eql (.t 55) (.k (.sc (.int .i64 2))), none, []⟩] false [0, 1, 2, 3, 4, 10, 11, 12, 13, 14, 56])
 (.cond (.t 56)
 (.seq (.region 0 [
 ⟨0, some 57, .mv (.t 0), none, []⟩,
 ⟨1, some 58, .mv (.t 1), none, []⟩,
 ⟨2, some 59, .mv (.t 2), none, []⟩,
 ⟨3, some 60, .mv (.t 4), none, []⟩,
 ⟨4, some 61, .call false (.f 182) [.t 57, .t 58, .t 59, .t 60], none, []⟩] false [0, 1, 2, 3, 4, 10, 11, 12, 13])
 (.seq (.region 0 [
 ⟨0, some 62, .mv (.t 2), none, []⟩,
 ⟨1, some 63, .bin .sub (.t 62) (.k (.sc (.int .i64 1))), none, []⟩,
 ⟨2, some 64, .mv (.t 13), none, []⟩,
 ⟨3, some 65, .mv (.t 1), none, []⟩,
 ⟨4, some 66, .bin .sub (.t 64) (.t 65), none, []⟩,
 ⟨5, some 67, .bin .sub (.t 63) (.t 66), none, []⟩,
 ⟨6, some 13, .mv (.t 67), none, []⟩] false [0, 1, 2, 3, 4, 10, 11, 12, 13])
 (.region 0 [
 ⟨0, some 14, .mv (.k (.sc (.int .i64 1))), none, []⟩] false [0, 1, 2, 3, 4, 10, 11, 12, 13, 14])))
 (.skip)))
 (.seq (.seq (.region 0 [
 ⟨0, some 68, .mv (.t 10), none, []⟩,
 ⟨1, some 69, .mv (.t 68), none, []⟩,
 ⟨2, some 70, .mv (.t 11), some (69, true), []⟩,
 ⟨3, some 71, .pick (.t 69) (.t 70) (.k (.sc (.bool false))), none, []⟩,
 ⟨4, some 72, .mv (.t 71), none, []⟩,
 ⟨5, some 73, .mv (.t 14), some (72, true), []⟩,
 ⟨6, some 74, .bin .eql (.t 73) (.k (.sc (.int .i64 1))), some (72, true), []⟩,
 ⟨7, some 75, .pick (.t 72) (.t 74) (.k (.sc (.bool false))), none, []⟩] false [0, 1, 2, 3, 4, 10, 11, 12, 13, 75])
 (.cond (.t 75)
 (.seq (.region 0 [
 ⟨0, some 76, .mv (.t 0), none, []⟩,
 ⟨1, some 77, .mv (.t 1), none, []⟩,
 ⟨2, some 78, .mv (.t 2), none, []⟩,
 ⟨3, some 79, .mv (.t 4), none, []⟩,
 ⟨4, some 80, .call false (.f 183) [.t 76, .t 77, .t 78, .t 79], none, []⟩] false [0, 1, 2, 3, 4, 10, 11, 12, 13, 80])
 (.cond (.t 80)
 (.ret)
 (.skip)))
 (.skip)))
 (.seq (.seq (.region 0 [
 ⟨0, some 81, .mv (.t 1), none, []⟩,
 ⟨1, some 82, .bin .gtr (.t 81) (.k (.sc (.int .i64 0))), none, []⟩,
 ⟨2, some 83, .mv (.t 82), none, []⟩,
 ⟨3, some 84, .mv (.t 4), some (83, true), []⟩,
 ⟨4, some 85, .mv (.t 0), some (83, true), []⟩,
 ⟨5, some 86, .mv (.t 1), some (83, true), []⟩,
 ⟨6, some 87, .bin .sub (.t 86) (.k (.sc (.int .i64 1))), some (83, true), []⟩,
 ⟨7, some 88, .iaddr 2 (.t 85) (.t 87), some (83, true), []⟩,
 ⟨8, some 89, .load (some 2) (.t 88), some (83, true), []⟩,
 ⟨9, some 90, .mv (.t 0), some (83, true), []⟩,
 ⟨10, some 91, .mv (.t 13), some (83, true), []⟩,
 ⟨11, some 92, .iaddr 2 (.t 90) (.t 91), some (83, true), []⟩,
 ⟨12, some 93, .load (some 2) (.t 92), some (83, true), []⟩,
 ⟨13, some 94, .call true (.t 84) [.t 89, .t 93], some (83, true), []⟩,
 ⟨14, some 95, .bin .lss (.t 94) (.k (.sc (.int .i64 0))), some (83, true), []⟩,
 ⟨15, some 96, .un .not (.t 95), some (83, true), []⟩,
 ⟨16, some 97, .pick (.t 83) (.t 96) (.k (.sc (.bool false))), none, []⟩] true [0, 1, 2, 3, 4, 10, 11, 12, 13, 97])
 (.cond (.t 97)
 (.seq (.region 0 [
 ⟨0, some 98, .mv (.t 0), none, []⟩,
 ⟨1, some 99, .mv (.t 1), none, []⟩,
 ⟨2, some 100, .mv (.t 2), none, []⟩,
 ⟨3, some 101, .mv (.t 13), none, []⟩,
 ⟨4, some 102, .mv (.t 4), none, []⟩,
 ⟨5, some 103, .call false (.f 184) [.t 98, .t 99, .t 100, .t 101, .t 102], none, []⟩,
 ⟨6, some 15, .mv (.t 103), none, []⟩] false [0, 2, 3, 4, 10, 11, 15])
 (.seq (.region 0 [
 ⟨0, some 104, .mv (.t 15), none, []⟩,
 ⟨1, some 1, .mv (.t 104), none, []⟩] false [0, 1, 2, 3, 4, 10, 11])
 (.exit 1)))
 (.skip)))
 (.seq (.region 0 [
 ⟨0, some 106, .mv (.t 0), none, []⟩,
 ⟨1, some 107, .mv (.t 1), none, []⟩,
 ⟨2, some 108, .mv (.t 2), none, []⟩,
 ⟨3, some 109, .mv (.t 13), none, []⟩,
 ⟨4, some 110, .mv (.t 4), none, []⟩,
 ⟨5, some 111, .call false (.f 185) [.t 106, .t 107, .t 108, .t 109, .t 110], none, []⟩,
 ⟨6, some 105, .mv (.t 111), none, []⟩,
 ⟨7, some 112, .ext (.t 105) 0, none, []⟩,
 ⟨8, some 113, .ext (.t 105) 1, none, []⟩,
 ⟨9, some 16, .mv (.t 112), none, []⟩,
 ⟨10, some 17, .mv (.t 113), none, []⟩] false [0, 1, 2, 3, 4, 12, 16, 17])
 (.seq (.region 0 [
 ⟨0, some 114, .mv (.t 17), none, []⟩,
 ⟨1, some 11, .mv (.t 114), none, []⟩] false [0, 1, 2, 3, 4, 11, 12, 16])
 (.seq (.region 0 [
 ⟨0, some 115, .mv (.t 16), none, []⟩,
 ⟨1, some 116, .mv (.t 1), none, []⟩,
 ⟨2, some 117, .bin .sub (.t 115) (.t 116), none, []⟩,
 ⟨3, some 118, .mv (.t 2), none, []⟩,
 ⟨4, some 119, .mv (.t 16), none, []⟩,
 ⟨5, some 120, .bin .sub (.t 118) (.t 119), none, []⟩,
 ⟨6, some 18, .mv (.t 117), none, []⟩,
 ⟨7, some 19, .mv (.t 120), none, []⟩] false [0, 1, 2, 3, 4, 11, 12, 16, 18, 19])
 (.seq (.region 0 [
 ⟨0, some 121, .mv (.t 12), none, []⟩,
 ⟨1, some 122, .bin .quo (.t 121) (.k (.sc (.int .i64 8))), none, []⟩,
 ⟨2, some 20, .mv (.t 122), none, []⟩] false [0, 1, 2, 3, 4, 11, 16, 18, 19, 20])
 (.seq (.region 0 [
 ⟨0, some 123, .mv (.t 18), none, []⟩,
 ⟨1, some 124, .mv (.t 19), none, []⟩,
 ⟨2, some 125, .bin .lss (.t 123) (.t 124), none, []⟩] false [0, 1, 2, 3, 4, 11, 16, 18, 19, 20, 125])
 (.cond (.t 125)
 (.seq (.region 0 [
 ⟨0, some 126, .mv (.t 18), none, []⟩,
 ⟨1, some 127, .mv (.t 20), none, []⟩,
 ⟨2, some 128, .bin .geq (.t 126) (.t 127), none, []⟩,
 ⟨3, some 10, .mv (.t 128), none, []⟩] false [0, 1, 2, 3, 4, 10, 11, 16])
 (.seq (.region 0 [
 ⟨0, some 129, .mv (.t 0), none, []⟩,
 ⟨1, some 130, .mv (.t 1), none, []⟩,
 ⟨2, some 131, .mv (.t 16), none, []⟩,
 ⟨3, some 132, .mv (.t 3), none, []⟩,
 ⟨4, some 133, .mv (.t 4), none, []⟩,
 ⟨5, some 134, .call false (.f 162) [.t 129, .t 130, .t 131, .t 132, .t 133], none, []⟩] false [0, 2, 3, 4, 10, 11, 16])
 (.region 0 [
 ⟨0, some 135, .mv (.t 16), none, []⟩,
 ⟨1, some 136, .bin .add (.t 135) (.k (.sc (.int .i64 1))), none, []⟩,
 ⟨2, some 1, .mv (.t 136), none, []⟩] false [0, 1, 2, 3, 4, 10, 11])))
 (.seq (.region 0 [
 ⟨0, some 137, .mv (.t 19), none, []⟩,
 ⟨1, some 138, .mv (.t 20), none, []⟩,
 ⟨2, some 139, .bin .geq (.t 137) (.t 138), none, []⟩,
 ⟨3, some 10, .mv (.t 139), none, []⟩] false [0, 1, 2, 3, 4, 10, 11, 16])
 (.seq (.region 0 [
 ⟨0, some 140, .mv (.t 0), none, []⟩,
 ⟨1, some 141, .mv (.t 16), none, []⟩,
 ⟨2, some 142, .bin .add (.t 141) (.k (.sc (.int .i64 1))), none, []⟩,
 ⟨3, some 143, .mv (.t 2), none, []⟩,
 ⟨4, some 144, .mv (.t 3), none, []⟩,
 ⟨5, some 145, .mv (.t 4), none, []⟩,
 ⟨6, some 146, .call false (.f 162) [.t 140, .t 142, .t 143, .t 144, .t 145], none, []⟩] false [0, 1, 3, 4, 10, 11, 16])
 (.region 0 [
 ⟨0, some 147, .mv (.t 16), none, []⟩,
 ⟨1, some 2, .mv (.t 147), none, []⟩] false [0, 1, 2, 3, 4, 10, 11]))))))))))))))))))
def a1Y : AC := .loop [0, 1, 2, 3, 4, 10, 11] a1X
def a1v : Fn := ⟨5, 148, [],
 (.seq (.region 0 [
 ⟨0, some 10, .mv (.k (.sc (.bool true))), none, []⟩] false [0, 1, 2, 3, 4, 10])
 (.seq (.region 0 [
 ⟨0, some 11, .mv (.k (.sc (.bool true))), none, []⟩] false [0, 1, 2, 3, 4, 10, 11])
 (.block 0 (a1Y)))), false⟩
def a5J : Fn := ⟨1, 8, [(2, none)],
 (.seq (.region 0 [
 ⟨0, some 2, .mv (.k (.sc (.int .i64 0))), none, []⟩] false [0])
 (.seq (.cond (.k (.sc (.bool false)))
 (.seq (.region 0 [
 ⟨0, some 3, .mv (.t 0), none, []⟩,
 ⟨1, some 4, .conv .u32 (.t 3), none, []⟩,
 ⟨2, some 5, .call true (.f 186) [.t 4], none, []⟩,
 ⟨3, some 2, .mv (.t 5), none, []⟩] false [2])
 (.ret))
 (.skip))
 (.seq (.region 0 [
 ⟨0, some 6, .mv (.t 0), none, []⟩,
 ⟨1, some 7, .call true (.f 187) [.t 6], none, []⟩,
 ⟨2, some 2, .mv (.t 7), none, []⟩] false [2])
 (.ret)))), false⟩
def a2Q : Fn := ⟨2, 9, [(4, none)],
 (.seq (.region 0 [
 ⟨0, some 4, .mv (.k (.sc (.bool false))), none, []⟩] false [0, 1])
 (.seq (.region 0 [
 ⟨0, some 5, .mv (.t 0), none, []⟩,
 ⟨1, some 6, .mv (.t 1), none, []⟩,
 ⟨2, some 7, .call true (.f 83) [.t 5, .t 6], none, []⟩,
 ⟨3, some 8, .bin .geq (.t 7) (.k (.sc (.int .i64 0))), none, []⟩,
 ⟨4, some 4, .mv (.t 8), none, []⟩] false [4])
 (.ret))), false⟩
def a3u : Fn := ⟨2, 8, [],
 (.seq (.region 1 [
 ⟨0, some 2, .box 0 (.t 0), none, []⟩] false [1, 2])
 (.seq (.region 1 [
 ⟨0, some 3, .alloc 0 [.nilf], none, []⟩] false [1, 2, 3])
 (.seq (.region 0 [
 ⟨0, some 4, .mkf 196 [] [] [.t 2, .t 1, .t 3], none, []⟩,
 ⟨1, none, .store 1 (.t 3) (.t 4), none, []⟩] false [3])
 (.region 0 [
 ⟨0, some 5, .load none (.t 3), none, []⟩,
 ⟨1, some 6, .call true (.f 197) [], none, []⟩,
 ⟨2, some 7, .call false (.t 5) [.t 6, .k (.sc (.int .i64 0))], none, []⟩] true [])))), false⟩
def a0u : AC :=
 (.seq (.region 0 [
 ⟨0, some 27, .bin .lss (.t 26) (.t 25), none, []⟩] false [1, 4, 5, 8, 25, 26, 27])
 (.seq (.cond (.t 27)
 (.skip)
 (.exit 0))
 (.seq (.block 1 (.seq (.region 0 [
 ⟨0, some 28, .mv (.t 26), none, []⟩,
 ⟨1, some 9, .mv (.t 28), none, []⟩] false [1, 4, 5, 8, 9, 25, 26])
 (.seq (.region 0 [
 ⟨0, some 29, .mv (.t 1), none, []⟩,
 ⟨1, some 30, .faddr 0 (.t 8), none, []⟩,
 ⟨2, some 31, .load none (.t 30), none, []⟩,
 ⟨3, some 32, .mv (.t 9), none, []⟩,
 ⟨4, some 33, .bin .add (.t 31) (.t 32), none, []⟩,
 ⟨5, some 34, .iarr 3 1 (.t 5) (.t 29), none, []⟩,
 ⟨6, none, .store 1 (.t 34) (.t 33), none, []⟩] false [1, 4, 5, 8, 25, 26])
 (.seq (.region 0 [
 ⟨0, some 35, .load none (.t 4), none, []⟩,
 ⟨1, some 36, .load (some 3) (.t 5), none, []⟩,
 ⟨2, some 37, .mv (.t 1), none, []⟩,
 ⟨3, some 38, .bin .add (.t 37) (.k (.sc (.int .i64 1))), none, []⟩,
 ⟨4, some 39, .call false (.t 35) [.t 36, .t 38], none, []⟩,
 ⟨5, some 40, .un .not (.t 39), none, []⟩] false [1, 4, 5, 8, 25, 26, 40])
 (.cond (.t 40)
 (.seq (.region 0 [
 ⟨0, some 7, .mv (.k (.sc (.bool false))), none, []⟩] false [7])
 (.ret))
 (.skip))))))
 (.region 0 [
 ⟨0, some 41, .bin .add (.t 26) (.k (.sc (.int .i64 1))), none, []⟩,
 ⟨1, some 26, .mv (.t 41), none, []⟩] false [1, 4, 5, 8, 25, 26]))))
def a7A : AC := .loop [1, 4, 5, 8, 25, 26] a0u
def a1O : Fn := ⟨5, 42, [(7, none)],
 (.seq (.region 1 [
 ⟨0, some 5, .box 0 (.t 0), none, []⟩,
 ⟨1, some 7, .mv (.k (.sc (.bool false))), none, []⟩] false [1, 2, 3, 4, 5])
 (.seq (.seq (.region 0 [
 ⟨0, some 10, .mv (.t 1), none, []⟩,
 ⟨1, some 11, .bin .eql (.t 10) (.k (.sc (.int .i64 3))), none, []⟩] false [1, 2, 3, 4, 5, 11])
 (.cond (.t 11)
 (.seq (.region 0 [
 ⟨0, some 12, .load none (.t 2), none, []⟩,
 ⟨1, some 13, .load (some 3) (.t 5), none, []⟩,
 ⟨2, some 14, .call false (.t 12) [.t 13], none, []⟩,
 ⟨3, some 7, .mv (.t 14), none, []⟩] false [7])
 (.ret))
 (.skip)))
 (.seq (.region 1 [
 ⟨0, some 15, .mv (.t 1), none, []⟩,
 ⟨1, some 16, .faddr 0 (.t 3), none, []⟩,
 ⟨2, some 17, .faddr 1 (.t 16), none, []⟩,
 ⟨3, some 18, .iarr 3 2 (.t 17) (.t 15), none, []⟩,
 ⟨4, some 19, .load (some 2) (.t 18), none, []⟩,
 ⟨5, some 8, .alloc 0 [.int .i64 0, .int .i64 0], none, []⟩,
 ⟨6, none, .store 2 (.t 8) (.t 19), none, []⟩] false [1, 4, 5, 8])
 (.seq (.seq (.region 0 [
 ⟨0, some 20, .faddr 1 (.t 8), none, []⟩,
 ⟨1, some 21, .load none (.t 20), none, []⟩,
 ⟨2, some 22, .faddr 0 (.t 8), none, []⟩,
 ⟨3, some 23, .load none (.t 22), none, []⟩,
 ⟨4, some 24, .bin .sub (.t 21) (.t 23), none, []⟩,
 ⟨5, some 25, .bin .add (.t 24) (.k (.sc (.int .i64 1))), none, []⟩,
 ⟨6, some 26, .mv (.k (.sc (.int .i64 0))), none, []⟩] false [1, 4, 5, 8, 25, 26])
 (.block 0 (a7A)))
 (.seq (.region 0 [
 ⟨0, some 7, .mv (.k (.sc (.bool true))), none, []⟩] false [7])
 (.ret)))))), false⟩
def a5v : Fn := ⟨0, 3, [(0, some (some 3))],
 (.seq (.region 1 [
 ⟨0, some 0, .alloc 0 [.int .i64 0, .int .i64 0, .int .i64 0], none, []⟩] false [0])
 (.seq (.region 1 [
 ⟨0, some 1, .alloc 0 [.int .i64 0, .int .i64 0, .int .i64 0], none, []⟩] false [0, 1])
 (.seq (.region 0 [
 ⟨0, some 2, .load (some 3) (.t 1), none, []⟩,
 ⟨1, none, .store 3 (.t 0) (.t 2), none, []⟩] false [0])
 (.ret)))), false⟩
def a0y : AC :=
 (.seq (.region 0 [
 ⟨0, some 9, .bin .lss (.t 8) (.t 7), none, []⟩] false [0, 3, 7, 8, 9])
 (.seq (.cond (.t 9)
 (.skip)
 (.exit 0))
 (.seq (.block 1 (.seq (.region 0 [
 ⟨0, some 10, .mv (.t 8), none, []⟩,
 ⟨1, some 5, .mv (.t 10), none, []⟩] false [0, 3, 5, 7, 8])
 (.seq (.region 0 [
 ⟨0, some 11, .load (some 2) (.t 3), none, []⟩,
 ⟨1, some 12, .mv (.t 0), none, []⟩,
 ⟨2, some 13, .mv (.t 5), none, []⟩,
 ⟨3, some 14, .iaddr 2 (.t 12) (.t 13), none, []⟩,
 ⟨4, some 15, .load (some 2) (.t 14), none, []⟩,
 ⟨5, some 16, .eqf false ⟨true, [1, 1]⟩ (.t 11) (.t 15), none, []⟩] true [0, 3, 5, 7, 8, 16])
 (.cond (.t 16)
 (.seq (.region 0 [
 ⟨0, some 17, .mv (.t 5), none, []⟩,
 ⟨1, some 4, .mv (.t 17), none, []⟩] false [4])
 (.ret))
 (.skip)))))
 (.region 0 [
 ⟨0, some 18, .bin .add (.t 8) (.k (.sc (.int .i64 1))), none, []⟩,
 ⟨1, some 8, .mv (.t 18), none, []⟩] false [0, 3, 7, 8]))))
def a3R : AC := .loop [0, 3, 7, 8] a0y
def a1x : Fn := ⟨2, 19, [(4, none)],
 (.seq (.region 1 [
 ⟨0, some 3, .box 0 (.t 1), none, []⟩,
 ⟨1, some 4, .mv (.k (.sc (.int .i64 0))), none, []⟩] false [0, 3])
 (.seq (.seq (.region 0 [
 ⟨0, some 6, .mv (.t 0), none, []⟩,
 ⟨1, some 7, .len 1 (.t 6), none, []⟩,
 ⟨2, some 8, .mv (.k (.sc (.int .i64 0))), none, []⟩] false [0, 3, 7, 8])
 (.block 0 (a3R)))
 (.seq (.region 0 [
 ⟨0, some 4, .mv (.k (.sc (.int .i64 (-1)))), none, []⟩] false [4])
 (.ret)))), false⟩
def cmp_isNaN_int : Fn := ⟨1, 6, [(2, none)],
 (.seq (.region 0 [
 ⟨0, some 2, .mv (.k (.sc (.bool false))), none, []⟩] false [0])
 (.seq (.region 0 [
 ⟨0, some 3, .mv (.t 0), none, []⟩,
 ⟨1, some 4, .mv (.t 0), none, []⟩,
 ⟨2, some 5, .bin .neq (.t 3) (.t 4), none, []⟩,
 ⟨3, some 2, .mv (.t 5), none, []⟩] false [2])
 (.ret))), false⟩
def a0B : AC :=
 (.seq (.seq (.region 0 [
 ⟨0, some 18, .mv (.t 9), none, []⟩,
 ⟨1, some 19, .mv (.t 1), none, []⟩,
 ⟨2, some 20, .bin .gtr (.t 18) (.t 19), none, []⟩,
 ⟨3, some 21, .mv (.t 20), none, []⟩,
 ⟨4, some 22, .mv (.t 3), some (21, true), []⟩,
 ⟨5, some 23, .mv (.t 0), some (21, true), []⟩,
 ⟨6, some 24, .mv (.t 9), some (21, true), []⟩,
 ⟨7, some 25, .iaddr 2 (.t 23) (.t 24), some (21, true), []⟩,
 ⟨8, some 26, .load (some 2) (.t 25), some (21, true), []⟩,
 ⟨9, some 27, .mv (.t 0), some (21, true), []⟩,
 ⟨10, some 28, .mv (.t 9), some (21, true), []⟩,
 ⟨11, some 29, .bin .sub (.t 28) (.k (.sc (.int .i64 1))), some (21, true), []⟩,
 ⟨12, some 30, .iaddr 2 (.t 27) (.t 29), some (21, true), []⟩,
 ⟨13, some 31, .load (some 2) (.t 30), some (21, true), []⟩,
 ⟨14, some 32, .call true (.t 22) [.t 26, .t 31], some (21, true), []⟩,
 ⟨15, some 33, .bin .lss (.t 32) (.k (.sc (.int .i64 0))), some (21, true), []⟩,
 ⟨16, some 34, .pick (.t 21) (.t 33) (.k (.sc (.bool false))), none, []⟩] true [0, 1, 2, 3, 8, 9, 34])
 (.cond (.t 34)
 (.skip)
 (.exit 2)))
 (.seq (.block 3 (.region 0 [
 ⟨0, some 37, .mv (.t 0), none, []⟩,
 ⟨1, some 38, .mv (.t 9), none, []⟩,
 ⟨2, some 39, .mv (.t 0), none, []⟩,
 ⟨3, some 40, .mv (.t 9), none, []⟩,
 ⟨4, some 41, .bin .sub (.t 40) (.k (.sc (.int .i64 1))), none, []⟩,
 ⟨5, some 42, .mv (.t 0), none, []⟩,
 ⟨6, some 43, .mv (.t 9), none, []⟩,
 ⟨7, some 44, .bin .sub (.t 43) (.k (.sc (.int .i64 1))), none, []⟩,
 ⟨8, some 45, .iaddr 2 (.t 42) (.t 44), none, []⟩,
 ⟨9, some 46, .load (some 2) (.t 45), none, []⟩,
 ⟨10, some 47, .mv (.t 0), none, []⟩,
 ⟨11, some 48, .mv (.t 9), none, []⟩,
 ⟨12, some 49, .iaddr 2 (.t 47) (.t 48), none, []⟩,
 ⟨13, some 50, .load (some 2) (.t 49), none, []⟩,
 ⟨14, some 51, .iaddr 2 (.t 37) (.t 38), none, []⟩,
 ⟨15, none, .store 2 (.t 51) (.t 46), none, []⟩,
 ⟨16, some 52, .iaddr 2 (.t 39) (.t 41), none, []⟩,
 ⟨17, none, .store 2 (.t 52) (.t 50), none, []⟩] true [0, 1, 2, 3, 8, 9]))
 (.region 0 [
 ⟨0, some 35, .mv (.t 9), none, []⟩,
 ⟨1, some 36, .bin .sub (.t 35) (.k (.sc (.int .i64 1))), none, []⟩,
 ⟨2, some 9, .mv (.t 36), none, []⟩] false [0, 1, 2, 3, 8, 9])))
def a2p : AC := .loop [0, 1, 2, 3, 8, 9] a0B
def a0F : AC :=
 (.seq (.seq (.region 0 [
 ⟨0, some 12, .mv (.t 8), none, []⟩,
 ⟨1, some 13, .mv (.t 2), none, []⟩,
 ⟨2, some 14, .bin .lss (.t 12) (.t 13), none, []⟩] false [0, 1, 2, 3, 8, 14])
 (.cond (.t 14)
 (.skip)
 (.exit 0)))
 (.seq (.block 1 (.seq (.region 0 [
 ⟨0, some 17, .mv (.t 8), none, []⟩,
 ⟨1, some 9, .mv (.t 17), none, []⟩] false [0, 1, 2, 3, 8, 9])
 (.block 2 (a2p))))
 (.region 0 [
 ⟨0, some 15, .mv (.t 8), none, []⟩,
 ⟨1, some 16, .bin .add (.t 15) (.k (.sc (.int .i64 1))), none, []⟩,
 ⟨2, some 8, .mv (.t 16), none, []⟩] false [0, 1, 2, 3, 8])))
def a1L : AC := .loop [0, 1, 2, 3, 8] a0F
def a1c : Fn := ⟨4, 53, [],
 (.seq (.region 0 [
 ⟨0, some 10, .mv (.t 1), none, []⟩,
 ⟨1, some 11, .bin .add (.t 10) (.k (.sc (.int .i64 1))), none, []⟩,
 ⟨2, some 8, .mv (.t 11), none, []⟩] false [0, 1, 2, 3, 8])
 (.block 0 (a1L))), false⟩
def a0P : Fn := ⟨1, 25, [(2, none)],
 (.seq (.region 0 [
 ⟨0, some 2, .mv (.k (.sc (.int .i64 0))), none, []⟩] false [0, 2])
 (.seq (.seq (.region 0 [
 ⟨0, some 3, .mv (.t 0), none, []⟩,
 ⟨1, some 4, .bin .geq (.t 3) (.k (.sc (.int .u64 4294967296))), none, []⟩] false [0, 2, 4])
 (.cond (.t 4)
 (.seq (.region 0 [
 ⟨0, some 5, .mv (.t 0), none, []⟩,
 ⟨1, some 6, .bin .shr (.t 5) (.k (.sc (.int .u64 32))), none, []⟩,
 ⟨2, some 0, .mv (.t 6), none, []⟩] false [0])
 (.region 0 [
 ⟨0, some 2, .mv (.k (.sc (.int .i64 32))), none, []⟩] false [0, 2]))
 (.skip)))
 (.seq (.seq (.region 0 [
 ⟨0, some 7, .mv (.t 0), none, []⟩,
 ⟨1, some 8, .bin .geq (.t 7) (.k (.sc (.int .u64 65536))), none, []⟩] false [0, 2, 8])
 (.cond (.t 8)
 (.seq (.region 0 [
 ⟨0, some 9, .mv (.t 0), none, []⟩,
 ⟨1, some 10, .bin .shr (.t 9) (.k (.sc (.int .u64 16))), none, []⟩,
 ⟨2, some 0, .mv (.t 10), none, []⟩] false [0, 2])
 (.region 0 [
 ⟨0, some 11, .mv (.t 2), none, []⟩,
 ⟨1, some 12, .bin .add (.t 11) (.k (.sc (.int .i64 16))), none, []⟩,
 ⟨2, some 2, .mv (.t 12), none, []⟩] false [0, 2]))
 (.skip)))
 (.seq (.seq (.region 0 [
 ⟨0, some 13, .mv (.t 0), none, []⟩,
 ⟨1, some 14, .bin .geq (.t 13) (.k (.sc (.int .u64 256))), none, []⟩] false [0, 2, 14])
 (.cond (.t 14)
 (.seq (.region 0 [
 ⟨0, some 15, .mv (.t 0), none, []⟩,
 ⟨1, some 16, .bin .shr (.t 15) (.k (.sc (.int .u64 8))), none, []⟩,
 ⟨2, some 0, .mv (.t 16), none, []⟩] false [0, 2])
 (.region 0 [
 ⟨0, some 17, .mv (.t 2), none, []⟩,
 ⟨1, some 18, .bin .add (.t 17) (.k (.sc (.int .i64 8))), none, []⟩,
 ⟨2, some 2, .mv (.t 18), none, []⟩] false [0, 2]))
 (.skip)))
 (.seq (.region 0 [
 ⟨0, some 19, .mv (.t 2), none, []⟩,
 ⟨1, some 20, .mv (.t 0), none, []⟩,
 ⟨2, some 21, .conv .u8 (.t 20), none, []⟩,
 ⟨3, some 22, .istr (.k (.sc (.str ⟨#[0, 1, 2, 2, 3, 3, 3, 3, 4, 4, 4, 4, 4, 4, 4, 4, 5, 5, 5, 5, 5, 5, 5, 5, 5, 5, 5, 5, 5, 5, 5, 5, 6, 6, 6, 6, 6, 6, 6, 6, 6, 6, 6, 6, 6, 6, 6, 6, 6, 6, 6, 6, 6, 6, 6, 6, 6, 6, 6, 6, 6, 6, 6, 6, 7, 7, 7, 7, 7, 7, 7, 7, 7, 7, 7, 7, 7, 7, 7, 7, 7, 7, 7, 7, 7, 7, 7, 7, 7, 7, 7, 7, 7, 7, 7, 7, 7, 7, 7, 7, 7, 7, 7, 7, 7, 7, 7, 7, 7, 7, 7, 7, 7, 7, 7, 7, 7, 7, 7, 7, 7, 7, 7, 7, 7, 7, 7, 7, 8, 8, 8, 8, 8, 8, 8, 8, 8, 8, 8, 8, 8, 8, 8, 8, 8, 8, 8, 8, 8, 8, 8, 8, 8, 8, 8, 8, 8, 8, 8, 8, 8, 8, 8, 8, 8, 8, 8, 8, 8, 8, 8, 8, 8, 8, 8, 8, 8, 8, 8, 8, 8, 8, 8, 8, 8, 8, 8, 8, 8, 8, 8, 8, 8, 8, 8, 8, 8, 8, 8, 8, 8, 8, 8, 8, 8, 8, 8, 8, 8, 8, 8, 8, 8, 8, 8, 8, 8, 8, 8, 8, 8, 8, 8, 8, 8, 8, 8, 8, 8, 8, 8, 8, 8, 8, 8, 8, 8, 8, 8, 8, 8, 8, 8, 8, 8, 8, 8, 8, 8, 8, 8, 8, 8, 8, 8, 8]⟩))) (.t 21), none, []⟩,
 ⟨4, some 23, .conv .i64 (.t 22), none, []⟩,
 ⟨5, some 24, .bin .add (.t 19) (.t 23), none, []⟩,
 ⟨6, some 2, .mv (.t 24), none, []⟩] false [2])
 (.ret)))))), false⟩
def a2R : AC :=
 (.seq (.region 0 [
 ⟨0, some 9, .bin .lss (.t 8) (.t 7), none, []⟩] false [0, 1, 7, 8, 9])
 (.seq (.cond (.t 9)
 (.skip)
 (.exit 0))
 (.seq (.block 1 (.seq (.region 0 [
 ⟨0, some 10, .mv (.t 8), none, []⟩,
 ⟨1, some 5, .mv (.t 10), none, []⟩] false [0, 1, 5, 7, 8])
 (.seq (.region 0 [
 ⟨0, some 11, .mv (.t 1), none, []⟩,
 ⟨1, some 12, .mv (.t 0), none, []⟩,
 ⟨2, some 13, .mv (.t 5), none, []⟩,
 ⟨3, some 14, .iaddr 1 (.t 12) (.t 13), none, []⟩,
 ⟨4, some 15, .load none (.t 14), none, []⟩,
 ⟨5, some 16, .bin .eql (.t 11) (.t 15), none, []⟩] false [0, 1, 5, 7, 8, 16])
 (.cond (.t 16)
 (.seq (.region 0 [
 ⟨0, some 17, .mv (.t 5), none, []⟩,
 ⟨1, some 4, .mv (.t 17), none, []⟩] false [4])
 (.ret))
 (.skip)))))
 (.region 0 [
 ⟨0, some 18, .bin .add (.t 8) (.k (.sc (.int .i64 1))), none, []⟩,
 ⟨1, some 8, .mv (.t 18), none, []⟩] false [0, 1, 7, 8]))))
def a8d : AC := .loop [0, 1, 7, 8] a2R
def a3r : Fn := ⟨2, 19, [(4, none)],
 (.seq (.region 0 [
 ⟨0, some 4, .mv (.k (.sc (.int .i64 0))), none, []⟩] false [0, 1])
 (.seq (.seq (.region 0 [
 ⟨0, some 6, .mv (.t 0), none, []⟩,
 ⟨1, some 7, .len 1 (.t 6), none, []⟩,
 ⟨2, some 8, .mv (.k (.sc (.int .i64 0))), none, []⟩] false [0, 1, 7, 8])
 (.block 0 (a8d)))
 (.seq (.region 0 [
 ⟨0, some 4, .mv (.k (.sc (.int .i64 (-1)))), none, []⟩] false [4])
 (.ret)))), false⟩
def a4g : Fn := ⟨3, 8, [(6, none)],
 (.seq (.region 2 [
 ⟨0, some 3, .box 0 (.t 0), none, []⟩,
 ⟨1, some 5, .box 1 (.t 2), none, []⟩,
 ⟨2, some 6, .mv (.k (.sc (.int .i64 0))), none, []⟩] false [1])
 (.seq (.region 0 [
 ⟨0, some 7, .mv (.t 1), none, []⟩,
 ⟨1, some 6, .mv (.t 7), none, []⟩] false [6])
 (.ret))), false⟩
def a3n : Fn := ⟨3, 24, [(6, none)],
 (.seq (.region 2 [
 ⟨0, some 3, .box 0 (.t 0), none, []⟩,
 ⟨1, some 5, .box 1 (.t 2), none, []⟩,
 ⟨2, some 6, .mv (.k (.sc (.int .i64 0))), none, []⟩] false [1, 3, 5])
 (.seq (.seq (.region 0 [
 ⟨0, some 7, .load (some 3) (.t 3), none, []⟩,
 ⟨1, some 8, .call true (.f 197) [], none, []⟩,
 ⟨2, some 9, .eqf false ⟨true, [1, 1, 1]⟩ (.t 7) (.t 8), none, []⟩] true [1, 3, 5, 9])
 (.cond (.t 9)
 (.seq (.region 0 [
 ⟨0, some 10, .mv (.t 1), none, []⟩,
 ⟨1, some 6, .mv (.t 10), none, []⟩] false [6])
 (.ret))
 (.skip)))
 (.seq (.region 0 [
 ⟨0, some 11, .mv (.t 1), none, []⟩,
 ⟨1, some 12, .faddr 0 (.t 5), none, []⟩,
 ⟨2, some 13, .load none (.t 12), none, []⟩,
 ⟨3, some 14, .iarr 3 1 (.t 3) (.k (.sc (.int .i64 0))), none, []⟩,
 ⟨4, some 15, .load none (.t 14), none, []⟩,
 ⟨5, some 16, .bin .mul (.t 13) (.t 15), none, []⟩,
 ⟨6, some 17, .bin .sub (.t 11) (.t 16), none, []⟩,
 ⟨7, some 18, .faddr 1 (.t 5), none, []⟩,
 ⟨8, some 19, .load none (.t 18), none, []⟩,
 ⟨9, some 20, .iarr 3 1 (.t 3) (.k (.sc (.int .i64 1))), none, []⟩,
 ⟨10, some 21, .load none (.t 20), none, []⟩,
 ⟨11, some 22, .bin .mul (.t 19) (.t 21), none, []⟩,
 ⟨12, some 23, .bin .sub (.t 17) (.t 22), none, []⟩,
 ⟨13, some 6, .mv (.t 23), none, []⟩] false [6])
 (.ret)))), false⟩
def d7p : Fn := ⟨2, 20, [(4, some (some 10))],
 (.seq (.region 1 [
 ⟨0, some 4, .alloc 0 [.sl .nil 2 [], .int .i64 0, .int .i64 0, .int .i64 0, .int .i64 0, .int .i64 0, .int .i64 0, .sl .nil 3 [], .sl .nil 2 [], .sl .nil 4 []], none, []⟩] false [0, 1, 4])
 (.seq (.region 2 [
 ⟨0, some 5, .call true (.f 33) [.k (.sc (.int .i64 10)), .k (.sc (.int .i64 11))], none, []⟩,
 ⟨1, some 6, .call true (.f 30) [.k (.sc (.int .i64 8))], none, []⟩,
 ⟨2, some 7, .bmsl 0 2 2 [.int .i64 0, .int .i64 0] [(0, .t 5), (1, .t 6)], none, []⟩,
 ⟨3, some 8, .call true (.f 33) [.k (.sc (.int .i64 2)), .k (.sc (.int .i64 3))], none, []⟩,
 ⟨4, some 9, .call true (.f 30) [.k (.sc (.int .i64 4))], none, []⟩,
 ⟨5, some 10, .call true (.f 33) [.k (.sc (.int .i64 3)), .k (.sc (.int .i64 4))], none, []⟩,
 ⟨6, some 11, .build [.int .i64 0, .int .i64 0, .int .i64 0, .int .i64 0, .int .i64 0, .int .i64 0] [(0, 2, .t 8), (2, 2, .t 9), (4, 2, .t 10)], none, []⟩,
 ⟨7, some 12, .build [.int .i64 0, .int .i64 0, .int .i64 0] [(0, 1, .k (.sc (.int .i64 1))), (1, 1, .k (.sc (.int .i64 1))), (2, 1, .k (.sc (.int .i64 1)))], none, []⟩,
 ⟨8, some 13, .mv (.t 0), none, []⟩,
 ⟨9, some 14, .build [.int .i64 0, .int .i64 0, .int .i64 0] [(1, 1, .k (.sc (.int .i64 1))), (2, 1, .t 13)], none, []⟩,
 ⟨10, some 15, .build [.int .i64 0, .int .i64 0, .int .i64 0] [(1, 1, .k (.sc (.int .i64 1))), (2, 1, .k (.sc (.int .i64 1)))], none, []⟩,
 ⟨11, some 16, .build [.int .i64 0, .int .i64 0, .int .i64 0] [(0, 1, .k (.sc (.int .i64 2))), (2, 1, .k (.sc (.int .i64 1)))], none, []⟩,
 ⟨12, some 17, .bmsl 1 3 4 [.int .i64 0, .int .i64 0, .int .i64 0] [(0, .t 12), (1, .t 14), (2, .t 15), (3, .t 16)], none, []⟩,
 ⟨13, some 18, .mv (.t 1), none, []⟩,
 ⟨14, some 19, .build [.sl .nil 2 [], .int .i64 0, .int .i64 0, .int .i64 0, .int .i64 0, .int .i64 0, .int .i64 0, .sl .nil 3 [], .sl .nil 2 [], .sl .nil 4 []] [(0, 1, .t 7), (1, 6, .t 11), (7, 1, .t 17), (9, 1, .t 18)], none, []⟩,
 ⟨15, none, .store 10 (.t 4) (.t 19), none, []⟩] false [4])
 (.ret))), true⟩
def d7q : Fn := ⟨0, 2, [(0, some (some 10))],
 (.seq (.region 1 [
 ⟨0, some 0, .alloc 0 [.sl .nil 2 [], .int .i64 0, .int .i64 0, .int .i64 0, .int .i64 0, .int .i64 0, .int .i64 0, .sl .nil 3 [], .sl .nil 2 [], .sl .nil 4 []], none, []⟩] false [0])
 (.seq (.region 0 [
 ⟨0, some 1, .call false (.f 233) [.k (.sc (.int .i64 1)), .k (.sc (.sl .nil 4 []))], none, []⟩,
 ⟨1, none, .store 10 (.t 0) (.t 1), none, []⟩] false [0])
 (.ret))), true⟩
def a1a : Fn := ⟨1, 8, [(2, none)],
 (.seq (.region 0 [
 ⟨0, some 2, .mv (.k (.sc (.sl .nil 2 []))), none, []⟩] false [0])
 (.seq (.seq (.region 0 [
 ⟨0, some 3, .mv (.t 0), none, []⟩,
 ⟨1, some 4, .isnil 0 false (.t 3), none, []⟩] false [0, 4])
 (.cond (.t 4)
 (.seq (.region 0 [
 ⟨0, some 2, .mv (.k (.sc (.sl .nil 2 []))), none, []⟩] false [2])
 (.ret))
 (.skip)))
 (.seq (.region 1 [
 ⟨0, some 5, .bslice 2 0 [.int .i64 0, .int .i64 0] [], none, []⟩,
 ⟨1, some 6, .mv (.t 0), none, []⟩,
 ⟨2, some 7, .appendM 0 2 (.t 5) (.t 6), none, []⟩,
 ⟨3, some 2, .mv (.tk 7), none, []⟩] false [2])
 (.ret)))), true⟩
end Go.Pm.Ac

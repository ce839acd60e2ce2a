/- The statement PracticeWell: whatever its arguments, the call returns true, and each argument reads as before. No condition beside the row's own. -/
import Derived.Test.YtdockaglpfejhaaGreatDoorW4
import Derived.Test.YtdockaglpfejhaaGreatDoorPracticeWellL8
import Derived.Test.YtdockaglpfejhaaGreatDoorProg
import Derived.Test.YtdockaglpfejhaaGreatDoorTie
import Derived.Test.YtdockaglpfejhaaGreatDoorCards
import Derived.ProofKit
import Derived.LaidMore
import Derived.OpenShut
import Derived.Stop.Joined
import Derived.SevenTiedAt
set_option linter.all false
set_option maxRecDepth 100000
namespace Go.Pm
open Go Go.Pm.Ac Go.Proofs
def tab:List (Nat × Fn × Nat):=[
 (357,Ac.g1V,10),
 (234,Ac.e5D,14),
 (236,Ac.e4E,16),
 (238,Ac.e5L,18),
 (23,Ac.a3l,20),
 (240,Ac.e5B,21),
 (242,Ac.e5C,23),
 (244,Ac.e6m,25),
 (245,Ac.e5u,26),
 (247,Ac.e5b,28),
 (249,Ac.e5p,30),
 (251,Ac.e6d,32),
 (29,Ac.a2w,38),
 (105,Ac.a1F,44),
 (257,Ac.e6U,46),
 (259,Ac.e6s,48),
 (262,Ac.e6j,49),
 (260,Ac.e5Z,50),
 (261,Ac.e6c,51),
 (30,Ac.a4A,52),
 (264,Ac.e6b,54),
 (265,Ac.e5G,55),
 (209,Ac.d2G,56),
 (267,Ac.e4D,58),
 (117,Ac.a6w,59),
 (268,Ac.e6t,60),
 (76,Ac.a2Q,61),
 (269,Ac.e6A,62),
 (272,Ac.e5E,66),
 (273,Ac.e5J,67),
 (276,Ac.e5K,70),
 (277,Ac.e5M,71),
 (280,Ac.e6a,74),
 (281,Ac.e6k,75),
 (282,Ac.e4G,76),
 (283,Ac.e4S,77),
 (286,Ac.e6I,80),
 (287,Ac.e5N,81),
 (111,Ac.a3C,86),
 (118,Ac.a5M,87),
 (121,Ac.a4h,88),
 (122,Ac.a4I,89),
 (123,Ac.a2j,90),
 (292,Ac.e5r,91),
 (291,Ac.e6g,92),
 (294,Ac.e4W,93),
 (293,Ac.e7f,94),
 (312,Ac.e6x,95),
 (295,Ac.e6r,96),
 (33,Ac.a3N,97),
 (296,Ac.e7b,98),
 (144,Ac.a5P,99),
 (298,Ac.e7c,102),
 (299,Ac.e5m,103),
 (301,Ac.e4A,104),
 (300,Ac.e6T,105),
 (150,Ac.a5Q,106),
 (151,Ac.a5O,107),
 (152,Ac.a6G,108),
 (153,Ac.a5b,109),
 (154,Ac.a5N,110),
 (83,Ac.a3r,111),
 (305,Ac.e6Z,120),
 (308,Ac.e5l,123),
 (155,Ac.a1m,124),
 (310,Ac.e5f,127),
 (311,Ac.e5F,128),
 (320,Ac.e4K,129),
 (112,Ac.a7d,131),
 (131,Ac.a5u,132),
 (113,Ac.a3V,133),
 (313,Ac.e6o,134),
 (171,Ac.a3m,135),
 (172,Ac.a3W,136),
 (315,Ac.e4C,139),
 (319,Ac.e5P,143),
 (161,Ac.a5J,144),
 (175,Ac.a1x,145),
 (164,Ac.a5n,151),
 (163,Ac.cmp_Compare_int,152),
 (145,Ac.a0N,153),
 (146,Ac.a3U,154),
 (321,Ac.e5Y,155),
 (333,Ac.e6n,156),
 (334,Ac.e6i,157),
 (188,Ac.a4G,158),
 (190,Ac.a3u,159),
 (196,Ac.a1O,160),
 (197,Ac.a5v,161),
 (324,Ac.e5c,165),
 (330,Ac.cmp_Less_int,171),
 (187,Ac.a0P,175),
 (177,Ac.cmp_isNaN_int,179),
 (167,Ac.a4H,180),
 (336,Ac.e4x,181),
 (335,Ac.e5X,182),
 (343,Ac.e5q,183),
 (337,Ac.e5n,184),
 (169,Ac.a4J,185),
 (189,Ac.a3S,195),
 (342,Ac.e4B,196),
 (348,Ac.e5k,214),
 (347,Ac.e6p,215),
 (199,Ac.a4g,216),
 (349,Ac.e5O,218),
 (345,Ac.e6l,219),
 (346,Ac.e6q,220),
 (200,Ac.a3n,221),
 (361,Ac.e5o,122),
 (362,Ac.e5t,61)]
def nums:List (Nat × Nat):=[(350,3),(351,4),(352,5),(353,6),(354,7),(355,8),(356,9),(357,10),(358,11),(359,12),(360,13),(234,14),(235,15),(236,16),(237,17),(238,18),(239,19),(23,20),(240,21),(241,22),(242,23),(243,24),(244,25),(245,26),(246,27),(247,28),(248,29),(249,30),(250,31),(251,32),(252,33),(64,34),(63,35),(66,36),(34,37),(29,38),(253,39),(254,40),(255,41),(256,42),(67,43),(105,44),(27,45),(257,46),(258,47),(259,48),(262,49),(260,50),(261,51),(30,52),(263,53),(264,54),(265,55),(209,56),(266,57),(267,58),(117,59),(268,60),(76,61),(269,62),(270,63),(119,64),(271,65),(272,66),(273,67),(274,68),(275,69),(276,70),(277,71),(278,72),(279,73),(280,74),(281,75),(282,76),(283,77),(284,78),(285,79),(286,80),(287,81),(288,82),(289,83),(35,84),(290,85),(111,86),(118,87),(121,88),(122,89),(123,90),(292,91),(291,92),(294,93),(293,94),(312,95),(295,96),(33,97),(296,98),(144,99),(297,100),(210,101),(298,102),(299,103),(301,104),(300,105),(150,106),(151,107),(152,108),(153,109),(154,110),(83,111),(49,112),(302,113),(303,114),(81,115),(304,116),(156,117),(157,118),(158,119),(305,120),(306,121),(307,122),(308,123),(155,124),(309,125),(106,126),(310,127),(311,128),(320,129),(65,130),(112,131),(131,132),(113,133),(313,134),(171,135),(172,136),(314,137),(147,138),(315,139),(316,140),(317,141),(318,142),(319,143),(161,144),(175,145),(114,146),(120,147),(124,148),(125,149),(126,150),(164,151),(163,152),(145,153),(146,154),(321,155),(333,156),(334,157),(188,158),(190,159),(196,160),(197,161),(322,162),(323,163),(173,164),(324,165),(325,166),(326,167),(327,168),(328,169),(329,170),(330,171),(331,172),(332,173),(186,174),(187,175),(115,176),(159,177),(116,178),(177,179),(167,180),(336,181),(335,182),(343,183),(337,184),(169,185),(338,186),(174,187),(339,188),(192,189),(193,190),(340,191),(341,192),(148,193),(149,194),(189,195),(342,196),(344,197),(75,198),(348,214),(347,215),(199,216),(349,218),(345,219),(346,220),(200,221),(364,49),(363,48),(361,122),(362,61)]
def c3J:Nat->List C:=fun g=>match g with|3=>[.int .i64 (-1),.int .i64 (-1)]|4=>[.fn (.fn 199) [] [] [],.fn (.fn 200) [] [] []]|5=>[.fn (.fn 348) [] [] [],.fn (.fn 349) [] [] []]|6=>[.int .i64 9,.int .i64 9,.int .i64 9]|7=>[.fn (.fn 346) [] [] [],.fn (.fn 347) [] [] []]|8=>[.int .i64 (-1),.int .i64 (-1)]|9=>[.int .i64 (-1),.int .i64 (-1)]|10=>[.int .i64 (-1),.int .i64 (-1),.int .i64 (-1),.int .i64 (-1),.int .i64 (-1)]|_=>[]
def Γ1:Env:={ fn:=fun id=>(tab.find? (·.1 == id)).map (·.2.1),prim:=fun _=>none,glob:=c3J }
noncomputable def S1:Seat:={ P:=Tryz.prog,Γ:=Γ1,fm:=fun id=>((nums.find? (·.1 == id)).map (·.2)).getD 0,gm:=fun g=>match g with|3=>2|4=>7|5=>0|6=>1|7=>3|8=>4|9=>5|10=>6|_=>0 }
def G1:List Nat:=[3,4,5,6,7,8,9,10]
theorem g2J:FnOk S1 G1 357 Ac.g1V:=a0w (fn:=Tryz.f10) Tryz.func10 (by kernel_rfl)
theorem f4U:FnOk S1 G1 234 Ac.e5D:=a0w (fn:=Tryz.f14) Tryz.func14 (by kernel_rfl)
theorem f4V:FnOk S1 G1 236 Ac.e4E:=a0w (fn:=Tryz.f16) Tryz.func16 (by kernel_rfl)
theorem f4W:FnOk S1 G1 238 Ac.e5L:=a0w (fn:=Tryz.f18) Tryz.func18 (by kernel_rfl)
theorem ok23:FnOk S1 G1 23 Ac.a3l:=a0w (fn:=Tryz.f20) Tryz.func20 (by kernel_rfl)
theorem f4X:FnOk S1 G1 240 Ac.e5B:=a0w (fn:=Tryz.f21) Tryz.func21 (by kernel_rfl)
theorem f4Y:FnOk S1 G1 242 Ac.e5C:=a0w (fn:=Tryz.f23) Tryz.func23 (by kernel_rfl)
theorem f4Z:FnOk S1 G1 244 Ac.e6m:=a0w (fn:=Tryz.f25) Tryz.func25 (by kernel_rfl)
theorem f5a:FnOk S1 G1 245 Ac.e5u:=a0w (fn:=Tryz.f26) Tryz.func26 (by kernel_rfl)
theorem f5b:FnOk S1 G1 247 Ac.e5b:=a0w (fn:=Tryz.f28) Tryz.func28 (by kernel_rfl)
theorem f5c:FnOk S1 G1 249 Ac.e5p:=a0w (fn:=Tryz.f30) Tryz.func30 (by kernel_rfl)
theorem f5d:FnOk S1 G1 251 Ac.e6d:=a0w (fn:=Tryz.f32) Tryz.func32 (by kernel_rfl)
theorem ok29:FnOk S1 G1 29 Ac.a2w:=a0w (fn:=Tryz.f38) Tryz.func38 (by kernel_rfl)
theorem c3X:FnOk S1 G1 105 Ac.a1F:=a0w (fn:=Tryz.f44) Tryz.func44 (by kernel_rfl)
theorem f5e:FnOk S1 G1 257 Ac.e6U:=a0w (fn:=Tryz.f46) Tryz.func46 (by kernel_rfl)
theorem f5g:FnOk S1 G1 259 Ac.e6s:=a0w (fn:=Tryz.f48) Tryz.func48 (by kernel_rfl)
theorem f5j:FnOk S1 G1 262 Ac.e6j:=a0w (fn:=Tryz.f49) Tryz.func49 (by kernel_rfl)
theorem f5h:FnOk S1 G1 260 Ac.e5Z:=a0w (fn:=Tryz.f50) Tryz.func50 (by kernel_rfl)
theorem f5i:FnOk S1 G1 261 Ac.e6c:=a0w (fn:=Tryz.f51) Tryz.func51 (by kernel_rfl)
theorem ok30:FnOk S1 G1 30 Ac.a4A:=a0w (fn:=Tryz.f52) Tryz.func52 (by kernel_rfl)
theorem f5k:FnOk S1 G1 264 Ac.e6b:=a0w (fn:=Tryz.f54) Tryz.func54 (by kernel_rfl)
theorem f5l:FnOk S1 G1 265 Ac.e5G:=a0w (fn:=Tryz.f55) Tryz.func55 (by kernel_rfl)
theorem d3w:FnOk S1 G1 209 Ac.d2G:=a0w (fn:=Tryz.f56) Tryz.func56 (by kernel_rfl)
theorem f5m:FnOk S1 G1 267 Ac.e4D:=a0w (fn:=Tryz.f58) Tryz.func58 (by kernel_rfl)
theorem c4e:FnOk S1 G1 117 Ac.a6w:=a0w (fn:=Tryz.f59) Tryz.func59 (by kernel_rfl)
theorem f5n:FnOk S1 G1 268 Ac.e6t:=a0w (fn:=Tryz.f60) Tryz.func60 (by kernel_rfl)
theorem ok76:FnOk S1 G1 76 Ac.a2Q:=a0w (fn:=Tryz.f61) Tryz.func61 (by kernel_rfl)
theorem f5o:FnOk S1 G1 269 Ac.e6A:=a0w (fn:=Tryz.f62) Tryz.func62 (by kernel_rfl)
theorem f5p:FnOk S1 G1 272 Ac.e5E:=a0w (fn:=Tryz.f66) Tryz.func66 (by kernel_rfl)
theorem f5q:FnOk S1 G1 273 Ac.e5J:=a0w (fn:=Tryz.f67) Tryz.func67 (by kernel_rfl)
theorem f5r:FnOk S1 G1 276 Ac.e5K:=a0w (fn:=Tryz.f70) Tryz.func70 (by kernel_rfl)
theorem f5s:FnOk S1 G1 277 Ac.e5M:=a0w (fn:=Tryz.f71) Tryz.func71 (by kernel_rfl)
theorem f5t:FnOk S1 G1 280 Ac.e6a:=a0w (fn:=Tryz.f74) Tryz.func74 (by kernel_rfl)
theorem f5u:FnOk S1 G1 281 Ac.e6k:=a0w (fn:=Tryz.f75) Tryz.func75 (by kernel_rfl)
theorem f5v:FnOk S1 G1 282 Ac.e4G:=a0w (fn:=Tryz.f76) Tryz.func76 (by kernel_rfl)
theorem f5w:FnOk S1 G1 283 Ac.e4S:=a0w (fn:=Tryz.f77) Tryz.func77 (by kernel_rfl)
theorem f5x:FnOk S1 G1 286 Ac.e6I:=a0w (fn:=Tryz.f80) Tryz.func80 (by kernel_rfl)
theorem f5y:FnOk S1 G1 287 Ac.e5N:=a0w (fn:=Tryz.f81) Tryz.func81 (by kernel_rfl)
theorem c4b:FnOk S1 G1 111 Ac.a3C:=a0w (fn:=Tryz.f86) Tryz.func86 (by kernel_rfl)
theorem c4f:FnOk S1 G1 118 Ac.a5M:=a0w (fn:=Tryz.f87) Tryz.func87 (by kernel_rfl)
theorem c4g:FnOk S1 G1 121 Ac.a4h:=a0w (fn:=Tryz.f88) Tryz.func88 (by kernel_rfl)
theorem c4h:FnOk S1 G1 122 Ac.a4I:=a0w (fn:=Tryz.f89) Tryz.func89 (by kernel_rfl)
theorem c4i:FnOk S1 G1 123 Ac.a2j:=a0w (fn:=Tryz.f90) Tryz.func90 (by kernel_rfl)
theorem f5A:FnOk S1 G1 292 Ac.e5r:=a0w (fn:=Tryz.f91) Tryz.func91 (by kernel_rfl)
theorem f5z:FnOk S1 G1 291 Ac.e6g:=a0w (fn:=Tryz.f92) Tryz.func92 (by kernel_rfl)
theorem f5C:FnOk S1 G1 294 Ac.e4W:=a0w (fn:=Tryz.f93) Tryz.func93 (by kernel_rfl)
theorem f5B:FnOk S1 G1 293 Ac.e7f:=a0w (fn:=Tryz.f94) Tryz.func94 (by kernel_rfl)
theorem f5N:FnOk S1 G1 312 Ac.e6x:=a0w (fn:=Tryz.f95) Tryz.func95 (by kernel_rfl)
theorem f5D:FnOk S1 G1 295 Ac.e6r:=a0w (fn:=Tryz.f96) Tryz.func96 (by kernel_rfl)
theorem ok33:FnOk S1 G1 33 Ac.a3N:=a0w (fn:=Tryz.f97) Tryz.func97 (by kernel_rfl)
theorem f5E:FnOk S1 G1 296 Ac.e7b:=a0w (fn:=Tryz.f98) Tryz.func98 (by kernel_rfl)
theorem c4x:FnOk S1 G1 144 Ac.a5P:=a0w (fn:=Tryz.f99) Tryz.func99 (by kernel_rfl)
theorem f5F:FnOk S1 G1 298 Ac.e7c:=a0w (fn:=Tryz.f102) Tryz.func102 (by kernel_rfl)
theorem f5G:FnOk S1 G1 299 Ac.e5m:=a0w (fn:=Tryz.f103) Tryz.func103 (by kernel_rfl)
theorem f5I:FnOk S1 G1 301 Ac.e4A:=a0w (fn:=Tryz.f104) Tryz.func104 (by kernel_rfl)
theorem f5H:FnOk S1 G1 300 Ac.e6T:=a0w (fn:=Tryz.f105) Tryz.func105 (by kernel_rfl)
theorem c4A:FnOk S1 G1 150 Ac.a5Q:=a0w (fn:=Tryz.f106) Tryz.func106 (by kernel_rfl)
theorem c4B:FnOk S1 G1 151 Ac.a5O:=a0w (fn:=Tryz.f107) Tryz.func107 (by kernel_rfl)
theorem c4C:FnOk S1 G1 152 Ac.a6G:=a0w (fn:=Tryz.f108) Tryz.func108 (by kernel_rfl)
theorem c4E:FnOk S1 G1 153 Ac.a5b:=a0w (fn:=Tryz.f109) Tryz.func109 (by kernel_rfl)
theorem c4F:FnOk S1 G1 154 Ac.a5N:=a0w (fn:=Tryz.f110) Tryz.func110 (by kernel_rfl)
theorem ok83:FnOk S1 G1 83 Ac.a3r:=a0w (fn:=Tryz.f111) Tryz.func111 (by kernel_rfl)
theorem f5J:FnOk S1 G1 305 Ac.e6Z:=a0w (fn:=Tryz.f120) Tryz.func120 (by kernel_rfl)
theorem f5K:FnOk S1 G1 308 Ac.e5l:=a0w (fn:=Tryz.f123) Tryz.func123 (by kernel_rfl)
theorem c4G:FnOk S1 G1 155 Ac.a1m:=a0w (fn:=Tryz.f124) Tryz.func124 (by kernel_rfl)
theorem f5L:FnOk S1 G1 310 Ac.e5f:=a0w (fn:=Tryz.f127) Tryz.func127 (by kernel_rfl)
theorem f5M:FnOk S1 G1 311 Ac.e5F:=a0w (fn:=Tryz.f128) Tryz.func128 (by kernel_rfl)
theorem f5R:FnOk S1 G1 320 Ac.e4K:=a0w (fn:=Tryz.f129) Tryz.func129 (by kernel_rfl)
theorem c4c:FnOk S1 G1 112 Ac.a7d:=a0w (fn:=Tryz.f131) Tryz.func131 (by kernel_rfl)
theorem c4m:FnOk S1 G1 131 Ac.a5u:=a0w (fn:=Tryz.f132) Tryz.func132 (by kernel_rfl)
theorem c4d:FnOk S1 G1 113 Ac.a3V:=a0w (fn:=Tryz.f133) Tryz.func133 (by kernel_rfl)
theorem f5O:FnOk S1 G1 313 Ac.e6o:=a0w (fn:=Tryz.f134) Tryz.func134 (by kernel_rfl)
theorem c4R:FnOk S1 G1 171 Ac.a3m:=a0w (fn:=Tryz.f135) Tryz.func135 (by kernel_rfl)
theorem c4S:FnOk S1 G1 172 Ac.a3W:=a0w (fn:=Tryz.f136) Tryz.func136 (by kernel_rfl)
theorem f5P:FnOk S1 G1 315 Ac.e4C:=a0w (fn:=Tryz.f139) Tryz.func139 (by kernel_rfl)
theorem f5Q:FnOk S1 G1 319 Ac.e5P:=a0w (fn:=Tryz.f143) Tryz.func143 (by kernel_rfl)
theorem c4I:FnOk S1 G1 161 Ac.a5J:=a0w (fn:=Tryz.f144) Tryz.func144 (by kernel_rfl)
theorem c4T:FnOk S1 G1 175 Ac.a1x:=a0w (fn:=Tryz.f145) Tryz.func145 (by kernel_rfl)
theorem c4M:FnOk S1 G1 164 Ac.a5n:=a0w (fn:=Tryz.f151) Tryz.func151 (by kernel_rfl)
theorem c4K:FnOk S1 G1 163 Ac.cmp_Compare_int:=a0w (fn:=Tryz.f152) Tryz.func152 (by kernel_rfl)
theorem c4y:FnOk S1 G1 145 Ac.a0N:=a0w (fn:=Tryz.f153) Tryz.func153 (by kernel_rfl)
theorem c4z:FnOk S1 G1 146 Ac.a3U:=a0w (fn:=Tryz.f154) Tryz.func154 (by kernel_rfl)
theorem f5S:FnOk S1 G1 321 Ac.e5Y:=a0w (fn:=Tryz.f155) Tryz.func155 (by kernel_rfl)
theorem f5V:FnOk S1 G1 333 Ac.e6n:=a0w (fn:=Tryz.f156) Tryz.func156 (by kernel_rfl)
theorem f5W:FnOk S1 G1 334 Ac.e6i:=a0w (fn:=Tryz.f157) Tryz.func157 (by kernel_rfl)
theorem c4Z:FnOk S1 G1 188 Ac.a4G:=a0w (fn:=Tryz.f158) Tryz.func158 (by kernel_rfl)
theorem c5b:FnOk S1 G1 190 Ac.a3u:=a0w (fn:=Tryz.f159) Tryz.func159 (by kernel_rfl)
theorem c5c:FnOk S1 G1 196 Ac.a1O:=a0w (fn:=Tryz.f160) Tryz.func160 (by kernel_rfl)
theorem c5d:FnOk S1 G1 197 Ac.a5v:=a0w (fn:=Tryz.f161) Tryz.func161 (by kernel_rfl)
theorem f5T:FnOk S1 G1 324 Ac.e5c:=a0w (fn:=Tryz.f165) Tryz.func165 (by kernel_rfl)
theorem f5U:FnOk S1 G1 330 Ac.cmp_Less_int:=a0w (fn:=Tryz.f171) Tryz.func171 (by kernel_rfl)
theorem c4Y:FnOk S1 G1 187 Ac.a0P:=a0w (fn:=Tryz.f175) Tryz.func175 (by kernel_rfl)
theorem c4W:FnOk S1 G1 177 Ac.cmp_isNaN_int:=a0w (fn:=Tryz.f179) Tryz.func179 (by kernel_rfl)
theorem c4N:FnOk S1 G1 167 Ac.a4H:=a0w (fn:=Tryz.f180) Tryz.func180 (by kernel_rfl)
theorem f5Y:FnOk S1 G1 336 Ac.e4x:=a0w (fn:=Tryz.f181) Tryz.func181 (by kernel_rfl)
theorem f5X:FnOk S1 G1 335 Ac.e5X:=a0w (fn:=Tryz.f182) Tryz.func182 (by kernel_rfl)
theorem f6b:FnOk S1 G1 343 Ac.e5q:=a0w (fn:=Tryz.f183) Tryz.func183 (by kernel_rfl)
theorem f5Z:FnOk S1 G1 337 Ac.e5n:=a0w (fn:=Tryz.f184) Tryz.func184 (by kernel_rfl)
theorem c4P:FnOk S1 G1 169 Ac.a4J:=a0w (fn:=Tryz.f185) Tryz.func185 (by kernel_rfl)
theorem c5a:FnOk S1 G1 189 Ac.a3S:=a0w (fn:=Tryz.f195) Tryz.func195 (by kernel_rfl)
theorem f6a:FnOk S1 G1 342 Ac.e4B:=a0w (fn:=Tryz.f196) Tryz.func196 (by kernel_rfl)
theorem f6f:FnOk S1 G1 348 Ac.e5k:=a0w (fn:=Tryz.f214) Tryz.func214 (by kernel_rfl)
theorem f6e:FnOk S1 G1 347 Ac.e6p:=a0w (fn:=Tryz.f215) Tryz.func215 (by kernel_rfl)
theorem c5e:FnOk S1 G1 199 Ac.a4g:=a0w (fn:=Tryz.f216) Tryz.func216 (by kernel_rfl)
theorem f6g:FnOk S1 G1 349 Ac.e5O:=a0w (fn:=Tryz.f218) Tryz.func218 (by kernel_rfl)
theorem f6c:FnOk S1 G1 345 Ac.e6l:=a0w (fn:=Tryz.f219) Tryz.func219 (by kernel_rfl)
theorem f6d:FnOk S1 G1 346 Ac.e6q:=a0w (fn:=Tryz.f220) Tryz.func220 (by kernel_rfl)
theorem c5f:FnOk S1 G1 200 Ac.a3n:=a0w (fn:=Tryz.f221) Tryz.func221 (by kernel_rfl)
theorem f6i:FnOk S1 G1 361 Ac.e5o:=a0w (fn:=Tryz.f122) Tryz.func122 (by kernel_rfl)
theorem f6j:FnOk S1 G1 362 Ac.e5t:=a0w (fn:=Tryz.f61) Tryz.func61 (by kernel_rfl)
theorem c2l:∀ e∈tab,FnOk S1 G1 e.1 e.2.1:=by
 intro e he
 simp only [tab,List.mem_cons,List.not_mem_nil,or_false] at he
 rcases he with rfl|rfl|rfl|rfl|rfl|rfl|rfl|rfl|rfl|rfl|rfl|rfl|rfl|rfl|rfl|rfl|rfl|rfl|rfl|rfl|rfl|rfl|rfl|rfl|rfl|rfl|rfl|rfl|rfl|rfl|rfl|rfl|rfl|rfl|rfl|rfl|rfl|rfl|rfl|rfl|rfl|rfl|rfl|rfl|rfl|rfl|rfl|rfl|rfl|rfl|rfl|rfl|rfl|rfl|rfl|rfl|rfl|rfl|rfl|rfl|rfl|rfl|rfl|rfl|rfl|rfl|rfl|rfl|rfl|rfl|rfl|rfl|rfl|rfl|rfl|rfl|rfl|rfl|rfl|rfl|rfl|rfl|rfl|rfl|rfl|rfl|rfl|rfl|rfl|rfl|rfl|rfl|rfl|rfl|rfl|rfl|rfl|rfl|rfl|rfl|rfl|rfl|rfl|rfl|rfl|rfl|rfl|rfl|rfl|rfl
 ·exact g2J
 ·exact f4U
 ·exact f4V
 ·exact f4W
 ·exact ok23
 ·exact f4X
 ·exact f4Y
 ·exact f4Z
 ·exact f5a
 ·exact f5b
 ·exact f5c
 ·exact f5d
 ·exact ok29
 ·exact c3X
 ·exact f5e
 ·exact f5g
 ·exact f5j
 ·exact f5h
 ·exact f5i
 ·exact ok30
 ·exact f5k
 ·exact f5l
 ·exact d3w
 ·exact f5m
 ·exact c4e
 ·exact f5n
 ·exact ok76
 ·exact f5o
 ·exact f5p
 ·exact f5q
 ·exact f5r
 ·exact f5s
 ·exact f5t
 ·exact f5u
 ·exact f5v
 ·exact f5w
 ·exact f5x
 ·exact f5y
 ·exact c4b
 ·exact c4f
 ·exact c4g
 ·exact c4h
 ·exact c4i
 ·exact f5A
 ·exact f5z
 ·exact f5C
 ·exact f5B
 ·exact f5N
 ·exact f5D
 ·exact ok33
 ·exact f5E
 ·exact c4x
 ·exact f5F
 ·exact f5G
 ·exact f5I
 ·exact f5H
 ·exact c4A
 ·exact c4B
 ·exact c4C
 ·exact c4E
 ·exact c4F
 ·exact ok83
 ·exact f5J
 ·exact f5K
 ·exact c4G
 ·exact f5L
 ·exact f5M
 ·exact f5R
 ·exact c4c
 ·exact c4m
 ·exact c4d
 ·exact f5O
 ·exact c4R
 ·exact c4S
 ·exact f5P
 ·exact f5Q
 ·exact c4I
 ·exact c4T
 ·exact c4M
 ·exact c4K
 ·exact c4y
 ·exact c4z
 ·exact f5S
 ·exact f5V
 ·exact f5W
 ·exact c4Z
 ·exact c5b
 ·exact c5c
 ·exact c5d
 ·exact f5T
 ·exact f5U
 ·exact c4Y
 ·exact c4W
 ·exact c4N
 ·exact f5Y
 ·exact f5X
 ·exact f6b
 ·exact f5Z
 ·exact c4P
 ·exact c5a
 ·exact f6a
 ·exact f6f
 ·exact f6e
 ·exact c5e
 ·exact f6g
 ·exact f6c
 ·exact f6d
 ·exact c5f
 ·exact f6i
 ·exact f6j
theorem c1n:SeatOk S1 G1 where
 mixed:=by kernel_rfl
 fn:=fun id f h=>by
  have h':(tab.find? (·.1 == id)).map (·.2.1)=some f:=h
  cases hf:tab.find? (·.1 == id) with
  | none=>rw [hf] at h';cases h'
  | some e =>
   rw [hf] at h'
   have h1:=List.mem_of_find?_eq_some hf
   have h2:=List.find?_some hf
   simp only [Option.map_some,Option.some.injEq] at h'
   have h3:e.1=id:=by simpa using h2
   subst h' h3
   exact c2l e h1
 prim:=fun id p vs h v h' _ e=>by cases e
end Go.Pm
namespace Go.Pm
open T
theorem a6S (k:IntKind) (ts:List T) (cs:List C):T.hasL (.int k::ts) cs<->∃ n r,cs=.int k n::r/\(Lit.int k n).wf=true/\T.hasL ts r:=by
 simp only [T.hasL,T.has]
 constructor
 ·rintro ⟨a,r,rfl,⟨n,rfl,hn⟩,h⟩;exact ⟨n,r,rfl,hn,h⟩
 ·rintro ⟨n,r,rfl,hn,h⟩;exact ⟨[.int k n],r,rfl,⟨n,rfl,hn⟩,h⟩
theorem a6T (cs:List C):T.hasL [] cs<->cs=[]:=by simp only [T.hasL]
theorem b4s:∀ (us ts:List T) (cs:List C),T.hasL (us++ts) cs<->∃ a r,cs=a++r/\T.hasL us a/\T.hasL ts r
 | [],ts,cs=>by
  simp only [List.nil_append,T.hasL]
  constructor
  ·intro h;exact ⟨[],cs,rfl,rfl,h⟩
  ·rintro ⟨a,r,rfl,rfl,h⟩;exact h
 | u::us,ts,cs=>by
  simp only [List.cons_append,T.hasL,b4s us ts]
  constructor
  ·rintro ⟨a,r,rfl,hu,b,c,rfl,h1,h2⟩;exact ⟨a++b,c,by simp,⟨a,b,rfl,hu,h1⟩,h2⟩
  ·rintro ⟨_,c,rfl,⟨a,b,rfl,hu,h1⟩,h2⟩;exact ⟨a,b++c,by simp,hu,b,c,rfl,h1,h2⟩
theorem c0S (us ts:List T) (cs:List C):T.hasL (.st us::ts) cs<->T.hasL (us++ts) cs:=by
 rw [b4s];simp only [T.hasL,T.has]
theorem b5N (es:Nat) (e:T) (ts:List T) (cs:List C):T.hasL (.sl es e::ts) cs<->∃ k l r,cs=.sl k es l::r/\l.length<=maxLen/\(∀ x∈l,T.has e x)/\(k=.nil->l=[])/\(l=[]->True)/\T.hasL ts r:=by
 simp only [T.hasL,T.has]
 constructor
 ·rintro ⟨a,r,rfl,ha,h⟩
  rcases ha with rfl|⟨k,l,rfl,hk,hl,hx⟩
  ·exact ⟨.nil,[],r,rfl,Nat.zero_le _,by simp,fun _=>rfl,fun _=>trivial,h⟩
  ·exact ⟨k,l,r,rfl,hl,hx,fun e=>absurd e hk,fun _=>trivial,h⟩
 ·rintro ⟨k,l,r,rfl,hl,hx,hk, -,h⟩
  refine ⟨[.sl k es l],r,rfl,?_,h⟩
  by_cases e:k=.nil
  ·have:=hk e;subst this;subst e;exact .inl rfl
  ·exact .inr ⟨k,l,rfl,e,hl,hx⟩
theorem all_map {α:Type} (e:T) (c:α->List C) (h:∀ x,T.has e x->∃ a,x=c a):∀ (l:List (List C)),(∀ x∈l,T.has e x)->∃ ys:List α,l=ys.map c
 | [],_=>⟨[],rfl⟩
 | x::l,hl=>by
  obtain ⟨a,rfl⟩:=h x (hl x (by simp))
  obtain ⟨ys,rfl⟩:=all_map e c h l (fun y hy=>hl y (by simp [hy]))
  exact ⟨a::ys,rfl⟩
def i1:T:=.int .i64
end Go.Pm
namespace Go.Pm.St
open T
def a7c:T:=.st [i1,i1]
def dayT:T:=.st [i1,i1,i1]
def b3R:T:=.st [i1,i1]
def b3S:T:=.st [i1,i1,i1,i1]
def b3K:T:=.st [.sl 2 a7c,.st [a7c,a7c,a7c],.sl 3 dayT,.sl 2 b3R,.sl 4 b3S]
theorem c1t (x:List C) (h:T.has a7c x):∃ d:Span,x=d.c:=by
 simp only [a7c,i1,T.has,a6S,a6T] at h
 obtain ⟨n,r,rfl, -,n2,r2,rfl, -,rfl⟩:=h
 exact ⟨⟨n,n2⟩,rfl⟩
theorem c1X (x:List C) (h:T.has dayT x):∃ d:Day,x=d.c:=by
 simp only [dayT,i1,T.has,a6S,a6T] at h
 obtain ⟨n,r,rfl, -,n2,r2,rfl, -,n3,r3,rfl, -,rfl⟩:=h
 exact ⟨⟨n,n2,n3⟩,rfl⟩
theorem rest_of (x:List C) (h:T.has b3R x):∃ d:Rest,x=d.c:=by
 simp only [b3R,i1,T.has,a6S,a6T] at h
 obtain ⟨n,r,rfl, -,n2,r2,rfl, -,rfl⟩:=h
 exact ⟨⟨n,n2⟩,rfl⟩
theorem c1q (x:List C) (h:T.has b3S x):∃ d:Sign,x=d.c:=by
 simp only [b3S,i1,T.has,a6S,a6T] at h
 obtain ⟨n,r,rfl, -,n2,r2,rfl, -,n3,r3,rfl, -,n4,r4,rfl, -,rfl⟩:=h
 exact ⟨⟨n,n2,n3,n4⟩,rfl⟩
end Go.Pm.St
namespace Go.Pm.St
open T
theorem f1O (ts:List T) (cs:List C):T.hasL (.bool::ts) cs<->∃ b r,cs=.bool b::r/\T.hasL ts r:=by
 simp only [T.hasL,T.has]
 constructor
 ·rintro ⟨a,r,rfl,⟨n,rfl⟩,h⟩;exact ⟨n,r,rfl,h⟩
 ·rintro ⟨n,r,rfl,h⟩;exact ⟨[.bool n],r,rfl,⟨n,rfl⟩,h⟩
def e9C:T:=.st [i1,i1]
def e9z:T:=.st [i1,i1,.bool]
def rehT:T:=.st [i1,i1,i1]
def f3e:T:=.st [i1,i1,i1,i1,.st [a7c,a7c],.sl 2 e9C,i1,.sl 3 e9z]
def e9H:T:=.st [f3e,b3K,.sl 1 i1,.sl 3 rehT]
theorem f3C (x:List C) (h:T.has e9C x):∃ d:Move,x=d.c:=by
 simp only [e9C,i1,T.has,a6S,a6T] at h
 obtain ⟨n,r,rfl, -,n2,r2,rfl, -,rfl⟩:=h
 exact ⟨⟨n,n2⟩,rfl⟩
theorem f3u (x:List C) (h:T.has e9z x):∃ d:Hear,x=d.c:=by
 simp only [e9z,i1,T.has,a6S,f1O,a6T] at h
 obtain ⟨n,r,rfl, -,n2,r2,rfl, -,n3,r3,rfl,rfl⟩:=h
 exact ⟨⟨n,n2,n3⟩,rfl⟩
theorem f4A (x:List C) (h:T.has rehT x):∃ d:Reh,x=d.c:=by
 simp only [rehT,i1,T.has,a6S,a6T] at h
 obtain ⟨n,r,rfl, -,n2,r2,rfl, -,n3,r3,rfl, -,rfl⟩:=h
 exact ⟨⟨n,n2,n3⟩,rfl⟩
theorem f4y (x:List C) (h:T.has i1 x):∃ n:Int,x=[ci n]:=by
 simp only [i1,T.has] at h
 obtain ⟨n,rfl, -⟩:=h
 exact ⟨n,rfl⟩
theorem f2O (v:V) (h:e9H.hasV v):∃ b:PBook,v=.agg b.c/\b.Fits:=by
 simp only [e9H,T.hasV] at h
 obtain ⟨cl,rfl,h⟩:=h
 simp only [show f3e=.st [i1,i1,i1,i1,.st [.st [i1,i1],.st [i1,i1]],.sl 2 e9C,i1,.sl 3 e9z] from rfl,show b3K=.st [.sl 2 a7c,.st [.st [i1,i1],.st [i1,i1],.st [i1,i1]],.sl 3 dayT,.sl 2 b3R,.sl 4 b3S] from rfl,
  show i1=T.int .i64 from rfl,a6S,c0S,b5N,List.cons_append,List.nil_append,a6T] at h
 obtain ⟨n0,r0,rfl, -,n1,r1,rfl, -,n2,r2,rfl, -,n3,r3,rfl, -,n4,r4,rfl, -,n5,r5,rfl, -,n6,r6,rfl, -,n7,r7,rfl, -,km,lm,r8,rfl,mm,am, -, -,n9,r9,rfl, -,kh,lh,ra,rfl,mh,ah, -, -,
  k0,l0,rb,rfl,m0,a0, -, -,p1,rc,rfl, -,p2,rd,rfl, -,p3,re,rfl, -,p4,rf,rfl, -,p5,rg,rfl, -,p6,rh,rfl, -,k1,l1,ri,rfl,m1,a1,nk, -,k2,l2,rj,rfl,m2,a2, -, -,k3,l3,rk,rfl,m3,a3, -, -,
  ks,ls,rl,rfl,ms,asl, -, -,kr,lr,rm,rfl,mr,ar, -, -,rfl⟩:=h
 obtain ⟨mv,rfl⟩:=all_map e9C Move.c f3C lm am
 obtain ⟨hd,rfl⟩:=all_map e9z Hear.c f3u lh ah
 obtain ⟨ss,rfl⟩:=all_map a7c Span.c c1t l0 a0
 obtain ⟨ds,rfl⟩:=all_map dayT Day.c c1X l1 a1
 obtain ⟨rs,rfl⟩:=all_map b3R Rest.c rest_of l2 a2
 obtain ⟨gs,rfl⟩:=all_map b3S Sign.c c1q l3 a3
 obtain ⟨sl,rfl⟩:=all_map i1 (fun n:Int=>[ci n]) f4y ls asl
 obtain ⟨rh',rfl⟩:=all_map rehT Reh.c f4A lr ar
 refine ⟨⟨⟨n0,n1,n2,n3,⟨n4,n5⟩,⟨n6,n7⟩,km,mv,n9,kh,hd⟩,⟨k0,ss,⟨p1,p2⟩,⟨p3,p4⟩,⟨p5,p6⟩,k1,ds,k2,rs,k3,gs⟩,ks,sl,kr,rh'⟩,rfl,⟨⟨?_,?_⟩,⟨?_,?_,?_,?_⟩,?_,?_,?_⟩⟩
 ·simpa [maxLen] using mm
 ·simpa [maxLen] using mh
 ·simpa [maxLen] using m0
 ·simpa [maxLen] using m1
 ·simpa [maxLen] using m2
 ·simpa [maxLen] using m3
 ·simpa [maxLen] using ms
 ·simpa [maxLen] using mr
 ·simpa using nk
end Go.Pm.St
namespace Go.Proofs.YtdockaglpfejhaaGreatDoor
open Go Go.Pm Go.ChangeShapes Go.WideShapes Go.ChangeAt Go.RowKit
instance p04:P04 Γ1:=by constructor<;>rfl
instance g0:St.G04 Γ1:=⟨rfl,rfl⟩
instance g1:St.GCo Γ1:=⟨rfl,rfl,rfl⟩
instance g2:St.GPr Γ1:=⟨rfl,rfl,rfl⟩
theorem own:ownKnob Tryz.prog.godebug=none:=by kernel_rfl
theorem laidOut:laidOutB Tryz.prog=true:=by kernel_rfl
def b1Y:List (String × DataW Unit):=[("decani/cold.nobody",Rows.laid_decani_cold_nobody),("decani/cold.nowhere",Rows.laid_decani_cold_nowhere),("decani/cold.kinds",Rows.laid_decani_cold_kinds),("decani/strain.nowhere",Rows.laid_decani_strain_nowhere),("decani/strain.ways",Rows.laid_decani_strain_ways),("decani/practice.unheld",Rows.laid_decani_practice_unheld),("decani/practice.nowhere",Rows.laid_decani_practice_nowhere),("decani/practice.counts",Rows.laid_decani_practice_counts)]
theorem door_met (os:Os) (args:Array Value):laidMetH Tryz.prog b1Y ((World.doorLaid Tryz.prog 600 os).forCall (fun _ _=>0) ⟨#[],args,[]⟩).memory :=
 laidMetH_of_parts3 (fuel:=8) (laidMet_of_run' 8 (by kernel_rfl) (by kernel_rfl)) (by kernel_rfl) (by kernel_rfl)
def f4h:List UInt8:=[40,100,101,99,97,110,105,47,115,116,114,97,105,110,46,99,111,115,116,115,41,46,114,101,115,116]
def f4i:List UInt8:=[40,100,101,99,97,110,105,47,115,116,114,97,105,110,46,99,111,115,116,115,41,46,115,105,110,103]
def f4j:List UInt8:=[40,100,101,99,97,110,105,47,112,114,97,99,116,105,99,101,46,112,108,97,110,41,46,104,111,108,100,115]
def f4k:List UInt8:=[40,100,101,99,97,110,105,47,112,114,97,99,116,105,99,101,46,112,108,97,110,41,46,107,101,101,112,115]
def f4l:List UInt8:=[40,100,101,99,97,110,105,47,99,111,108,100,46,118,111,116,101,115,41,46,115,111,109,101]
def f4m:List UInt8:=[40,100,101,99,97,110,105,47,99,111,108,100,46,118,111,116,101,115,41,46,101,97,99,104]
theorem globs {w:World} (h:laidMetH Tryz.prog b1Y w):∀ id∈G1,RC S1 (.start w) (.eptr (S1.Γ.glob id) 0) (.pointer (some ⟨S1.gm id,0,none⟩)):=by
 intro id hid
 have:id=3\/id=4\/id=5\/id=6\/id=7\/id=8\/id=9\/id=10:=by simpa [G1] using hid
 rcases this with rfl|rfl|rfl|rfl|rfl|rfl|rfl|rfl
 ·exact b7x (S:=S1) (n := "decani/strain.nowhere") (b:=2) (t:=174) (k:=2) (d:=8) (zs:=[-1, -1]) h (List.Mem.tail _ (List.Mem.tail _ (List.Mem.tail _ (List.Mem.head _)))) (by kernel_rfl) (by kernel_rfl) (by kernel_rfl)
 ·exact b6t (S:=S1) (n := "decani/strain.ways") (b:=7) (t:=235) (e:=234) (k:=2) (ps:=#[185,3,65]) (rs:=#[3]) (va:=false) (ids:=[199,200]) (names:=[f4h,f4i]) h (List.Mem.tail _ (List.Mem.tail _ (List.Mem.tail _ (List.Mem.tail _ (List.Mem.head _))))) (by kernel_rfl) (by kernel_rfl) (by kernel_rfl) (by kernel_rfl) (by kernel_rfl) (by kernel_rfl) rfl rfl (by kernel_rfl)
 ·exact b6t (S:=S1) (n := "decani/practice.counts") (b:=0) (t:=107) (e:=106) (k:=2) (ps:=#[109]) (rs:=#[3]) (va:=false) (ids:=[348,349]) (names:=[f4j,f4k]) h (List.Mem.tail _ (List.Mem.tail _ (List.Mem.tail _ (List.Mem.tail _ (List.Mem.tail _ (List.Mem.tail _ (List.Mem.tail _ (List.Mem.head _)))))))) (by kernel_rfl) (by kernel_rfl) (by kernel_rfl) (by kernel_rfl) (by kernel_rfl) (by kernel_rfl) rfl rfl (by kernel_rfl)
 ·exact b7x (S:=S1) (n := "decani/practice.unheld") (b:=1) (t:=102) (k:=3) (d:=8) (zs:=[9,9,9]) h (List.Mem.tail _ (List.Mem.tail _ (List.Mem.tail _ (List.Mem.tail _ (List.Mem.tail _ (List.Mem.head _)))))) (by kernel_rfl) (by kernel_rfl) (by kernel_rfl)
 ·exact b6t (S:=S1) (n := "decani/cold.kinds") (b:=3) (t:=179) (e:=178) (k:=2) (ps:=#[177]) (rs:=#[4]) (va:=false) (ids:=[346,347]) (names:=[f4l,f4m]) h (List.Mem.tail _ (List.Mem.tail _ (List.Mem.head _))) (by kernel_rfl) (by kernel_rfl) (by kernel_rfl) (by kernel_rfl) (by kernel_rfl) (by kernel_rfl) rfl rfl (by kernel_rfl)
 ·exact b7x (S:=S1) (n := "decani/cold.nowhere") (b:=4) (t:=138) (k:=2) (d:=8) (zs:=[-1, -1]) h (List.Mem.tail _ (List.Mem.head _)) (by kernel_rfl) (by kernel_rfl) (by kernel_rfl)
 ·exact b7x (S:=S1) (n := "decani/practice.nowhere") (b:=5) (t:=163) (k:=2) (d:=8) (zs:=[-1, -1]) h (List.Mem.tail _ (List.Mem.tail _ (List.Mem.tail _ (List.Mem.tail _ (List.Mem.tail _ (List.Mem.tail _ (List.Mem.head _))))))) (by kernel_rfl) (by kernel_rfl) (by kernel_rfl)
 ·exact b7x (S:=S1) (n := "decani/cold.nobody") (b:=6) (t:=140) (k:=5) (d:=8) (zs:=[-1, -1, -1, -1, -1]) h (List.Mem.head _) (by kernel_rfl) (by kernel_rfl) (by kernel_rfl)
end Go.Proofs.YtdockaglpfejhaaGreatDoor
namespace Go.Proofs.YtdockaglpfejhaaGreatDoor
open Go Go.Pm Go.Pm.St Go.ChangeShapes Go.WideShapes Go.ChangeAt Go.RowKit
theorem lifted (os:Os) (started:os.Started) (H:Type) (enc:TypeId × Value->H) :
 ReturnsInHanded {} Tryz.checked os 10 .any (fun w args=>(Rows.practiceWellSpec.pre enc Tryz.prog Tryz.f10 [] false w args/\laidMetH Tryz.prog b1Y w)/\sizedMet enc Tryz.prog Tryz.f10 (OpenSpec.ofChange Rows.practiceWellSpec) false w args)
  (Rows.practiceWellSpec.post enc Tryz.prog Tryz.f10 false true false false):=by
 refine returnsInHanded_of_change_and (C:=Tryz.checked) (X:=fun w _=>laidMetH Tryz.prog b1Y w) (fun _ _ _ hh h=>h.of_heap hh) own started (by kernel_rfl) Tryz.func10
  (ChangeSpec.witness_shaped (enc:=enc) (C:=Tryz.checked) (os:=os) (X:=fun w _=>laidMetH Tryz.prog b1Y w) false (World.doorLaid Tryz.prog 600 os) #[.agg #[.int .i64 0,.int .i64 0,.int .i64 0,.int .i64 0,.int .i64 0,.int .i64 0,.int .i64 0,.int .i64 0,.slice none 0 0,.int .i64 0,.slice none 0 0,.slice none 0 0,.int .i64 0,.int .i64 0,.int .i64 0,.int .i64 0,.int .i64 0,.int .i64 0,.slice none 0 0,.slice none 0 0,.slice none 0 0,.slice none 0 0,.slice none 0 0]] 8 rfl (World.shaped_of_RefB (by kernel_rfl) (by kernel_rfl)) (by kernel_rfl) (by kernel_rfl) (by kernel_rfl) (door_met os _)) ?_
 intro W base args ds gs before hval hW _ _ hL _
 refine b4C (S:=S1) (G:=G1) (id:=357) (tb:=4) (base:=base) c1n 8 [e9H] (by kernel_rfl) (by kernel_rfl) laidOut (by kernel_rfl) (by kernel_rfl) rfl ?_ ?_ hval hW (globs hL)
 ·intro ds hd
  match ds,hd with
  | [d0],_=>rfl
 ·show ∀ vs,a6Z [e9H] vs->K Γ1 (.fn 357) vs []=some (.sc (.bool true),[])
  intro vs hvs
  simp only [a6Z] at hvs
  obtain ⟨v0,r0,rfl,h0,rfl⟩:=hvs
  obtain ⟨b,rfl,hb⟩:=f2O _ h0
  haveI:=hb
  exact g2g (Γ:=Γ1) b
theorem b8f:Rows.PracticeWellSaid :=
 OpenClaim.holds_of_wide 10 Tryz.f10 rfl rfl rfl rfl rfl rfl rfl ⟨rfl,rfl,rfl,rfl,rfl⟩ rfl rfl rfl rfl rfl (by kernel_rfl) Tryz.func10 (by kernel_rfl)
  (of_decide_eq_true (by kernel_rfl)) (by unfold Func.isWrapper;first|(rw [if_pos (by decide +kernel)];kernel_rfl)|(rw [if_neg (by decide +kernel)];exact ⟨rfl,rfl⟩))
  (fun os started H enc _=>lifted os started H enc)
theorem practiceWell_card_holds:Rows.PracticeWellCardSaid :=
 Claim7.holds_tied_plain_at .later [] [.data,.data,.funcs,.data,.funcs,.data,.data,.funcs] true (true, "c29ee9e7d2f8e5b4b23798428a790e673e1e2270a7a51021ae00e48439bd4899") false
  b8f (fun _ h=>by cases h) (by kernel_rfl) (fun _ h=>by cases h) practiceWell_row_tie rfl ⟨rfl,rfl⟩ (by kernel_rfl) rfl
  (fun f fn hf hfn=>by
   obtain rfl:f=10:=Option.some.inj ((show Tryz.prog.funcNamed "decani/decanilaw10.PracticeWell"=some 10 by kernel_rfl).symm.trans hf) |>.symm
   obtain rfl:fn=Tryz.f10:=(Option.some.inj (Tryz.func10.symm.trans hfn)).symm
   exact ⟨by kernel_rfl,fun j t ht=>by
    have hp:Tryz.f10.params=#[39]:=by kernel_rfl
    rw [hp] at ht
    have hm:t∈([39]:List TypeId):=by simpa using Array.mem_of_getElem? ht
    have hall:(([39]:List TypeId).all fun u=>!Tryz.prog.wantsStandIn u)=true:=by kernel_rfl
    exact (show Tryz.prog.wantsStandIn t=false by simpa using List.all_eq_true.1 hall t hm)⟩)
  (by kernel_rfl)
#print axioms practiceWell_card_holds
end Go.Proofs.YtdockaglpfejhaaGreatDoor

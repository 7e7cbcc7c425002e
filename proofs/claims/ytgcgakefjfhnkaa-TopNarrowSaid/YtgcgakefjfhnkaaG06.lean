/- Part 6 of the texts behind the proof: TqS, TqO0, TqC1, TqC2, TqC3, Gx25, TqBr, TqC4, TqBs, TqV1, TqB, TqP1, TqP2, TqM1, TqV2, Gx26, Gx27. -/
import Derived.Test.YtgcgakefjfhnkaaG05
import Derived.Test.YtgcgakefjfhnkaaProg
import Derived.ProofKit
import Derived.OpenShut
import Derived.Test.YtgcgakefjfhnkaaRows
import Derived.LaidMore
import Derived.Lay
import Derived.SevenTiedAt
set_option linter.unusedSimpArgs false
set_option linter.unusedVariables false
set_option linter.unusedSectionVars false
set_option maxRecDepth 100000
namespace Go.Proofs.Tq
open Go.GX
abbrev k1 : Kd := .fn (.unit) (.unit)
abbrev k2 : Kd := .int .i64
abbrev k3 : Kd := .int .i64
abbrev k4 : Kd := .bool
abbrev k5 : Kd := .int .u8
abbrev k6 : Kd := .int .u8
abbrev k7 : Kd := .agg (.pair (k2) (.pair (k3) (.pair (k4) (k6))))
abbrev k8 : Kd := .agg (.pair (k2) (.pair (k3) (.pair (k4) (k6))))
abbrev k9 : Kd := .str
abbrev k10 : Kd := .str
abbrev k11 : Kd := .str
abbrev k12 : Kd := .int .u64
abbrev k13 : Kd := .agg (.pair (k9) (k12))
abbrev k14 : Kd := .agg (.pair (k9) (k12))
abbrev k21 : Kd := .int .i32
abbrev k22 : Kd := .agg (.pair (k5) (.pair (k5) (.pair (k5) (k5))))
abbrev k23 : Kd := .fn (.pair (k3) (.pair (k3) (.pair (k3) (.pair (k3) (k3))))) (k4)
abbrev k24 : Kd := .fn (.pair (k22) (k5)) (k4)
abbrev k35 : Kd := .agg (.pair (k5) (.pair (k5) (k5)))
abbrev k25 : Kd := .sl 35 k35
abbrev k40 : Kd := .agg (.pair (k3) (k3))
abbrev k26 : Kd := .sl 40 k40
abbrev k27 : Kd := .agg (.pair (k3) (k26))
abbrev k28 : Kd := .agg (.pair (k3) (k26))
abbrev k29 : Kd := .sl 28 k28
abbrev k37 : Kd := .agg (k26)
abbrev k30 : Kd := .sl 37 k37
abbrev k31 : Kd := .agg (.pair (k30) (k29))
abbrev k32 : Kd := .agg (.pair (k30) (k29))
abbrev k33 : Kd := .agg (.pair (k3) (k3))
abbrev k34 : Kd := .agg (.pair (k33) (k33))
abbrev k36 : Kd := .agg (k26)
abbrev k38 : Kd := .fn (k26) (k37)
abbrev k39 : Kd := .agg (.pair (k3) (k3))
abbrev k41 : Kd := .fn (.pair (k3) (k3)) (k40)
abbrev k42 : Kd := .sl 3 k3
abbrev k43 : Kd := .int .i64
abbrev k45 : Kd := .fn (k32) (.pair (k3) (.pair (k42) (k43)))
abbrev k46 : Kd := .fn (.pair (k32) (k42)) (k4)
abbrev k47 : Kd := .agg (.pair (k3) (.pair (k3) (k3)))
abbrev k48 : Kd := .agg (.pair (k3) (.pair (k3) (k3)))
abbrev k103 : Kd := .agg (.pair (k3) (.pair (k3) (k3)))
abbrev k51 : Kd := .sl 103 k103
abbrev k50 : Kd := .fn (.pair (k51) (k48)) (.pair (k3) (k43))
abbrev k52 : Kd := .fn (.pair (k3) (.pair (k3) (k3))) (k51)
abbrev k54 : Kd := .fn (.pair (k32) (.pair (k3) (k3))) (.pair (k40) (k43))
abbrev k55 : Kd := .fn (.unit) (k4)
abbrev k56 : Kd := .fn (.pair (k25) (k5)) (k4)
abbrev k57 : Kd := .agg (.pair (k5) (k5))
abbrev k58 : Kd := .agg (.pair (k57) (.pair (k57) (.pair (k57) (.pair (k57) (.pair (k57) (k57))))))
abbrev k59 : Kd := .agg (.pair (k5) (.pair (k58) (.pair (k58) (.pair (k25) (k22)))))
abbrev k60 : Kd := .agg (.pair (k5) (.pair (k58) (.pair (k58) (.pair (k25) (k22)))))
abbrev k113 : Kd := .agg (.pair (k40) (.pair (k40) (k40)))
abbrev k61 : Kd := .sl 113 k113
abbrev k62 : Kd := .agg (.pair (k26) (.pair (k26) (.pair (k3) (k61))))
abbrev k63 : Kd := .agg (.pair (k26) (.pair (k26) (.pair (k3) (k61))))
abbrev k64 : Kd := .agg (.pair (k3) (.pair (k3) (.pair (k3) (k3))))
abbrev k65 : Kd := .agg (.pair (k3) (.pair (k3) (.pair (k3) (k3))))
abbrev k67 : Kd := .fn (.unit) (.pair (k63) (k65))
abbrev k68 : Kd := .fn (.pair (k63) (.pair (k65) (k3))) (k3)
abbrev k69 : Kd := .agg (.pair (k3) (k3))
abbrev k70 : Kd := .agg (.pair (k3) (k3))
abbrev k71 : Kd := .fn (.pair (k70) (k3)) (.pair (k40) (k43))
abbrev k72 : Kd := .fn (.pair (k70) (k3)) (.pair (k3) (k43))
abbrev k73 : Kd := .fn (.pair (k60) (k57)) (k4)
abbrev k74 : Kd := .fn (.pair (k63) (.pair (k65) (k3))) (.pair (k3) (k43))
abbrev k75 : Kd := .fn (k63) (k63)
abbrev k76 : Kd := .agg (.pair (k3) (.pair (k3) (.pair (k3) (k3))))
abbrev k77 : Kd := .agg (.pair (k3) (.pair (k3) (.pair (k3) (k3))))
abbrev k81 : Kd := .agg (.pair (k3) (k42))
abbrev k79 : Kd := .fn (.pair (k81) (.pair (k81) (k77))) (.pair (k4) (.pair (k4) (k43)))
abbrev k80 : Kd := .agg (.pair (k3) (k42))
abbrev k82 : Kd := .fn (.pair (k3) (k42)) (k81)
abbrev k83 : Kd := .agg (.pair (k40) (.pair (k40) (k3)))
abbrev k84 : Kd := .agg (.pair (k40) (.pair (k40) (k3)))
abbrev k87 : Kd := .sl 84 k84
abbrev k86 : Kd := .fn (k87) (.pair (k40) (.pair (k40) (k43)))
abbrev k88 : Kd := .agg (.pair (k3) (k3))
abbrev k89 : Kd := .agg (.pair (k3) (k3))
abbrev k91 : Kd := .fn (k87) (.pair (k89) (.pair (k89) (k43)))
abbrev k92 : Kd := .agg (.pair (k89) (k89))
abbrev k93 : Kd := .agg (k32)
abbrev k94 : Kd := .agg (k32)
abbrev k98 : Kd := .sl 3 k3
abbrev k95 : Kd := .sl 98 k98
abbrev k97 : Kd := .fn (k32) (.pair (k94) (.pair (k95) (k43)))
abbrev k99 : Kd := .fn (.pair (k51) (k48)) (k43)
abbrev k100 : Kd := .sl 42 k42
abbrev k101 : Kd := .fn (.pair (k51) (k48)) (k100)
abbrev k102 : Kd := .agg (.pair (k3) (.pair (k3) (k3)))
abbrev k104 : Kd := .fn (.pair (k3) (.pair (k3) (k42))) (k4)
abbrev k105 : Kd := .agg (.pair (k40) (.pair (k40) (k40)))
abbrev k106 : Kd := .agg (.pair (k40) (.pair (k40) (k40)))
abbrev k107 : Kd := .agg (.pair (k3) (k106))
abbrev k108 : Kd := .agg (.pair (k3) (k106))
abbrev k109 : Kd := .fn (k26) (k106)
abbrev k110 : Kd := .fn (.pair (k3) (k26)) (k28)
abbrev k111 : Kd := .fn (.pair (k42) (k42)) (k4)
abbrev k112 : Kd := .agg (.pair (k40) (.pair (k40) (k40)))
abbrev k169 : Kd := .agg (.pair (k3) (k3))
abbrev k114 : Kd := .sl 169 k169
abbrev k116 : Kd := .fn (.pair (k63) (k65)) (.pair (k114) (k43))
abbrev k117 : Kd := .fn (k70) (k4)
abbrev k118 : Kd := .agg (k70)
abbrev k119 : Kd := .agg (k70)
abbrev k120 : Kd := .fn (k3) (k3)
abbrev k121 : Kd := .fn (k3) (k4)
abbrev k122 : Kd := .agg (.pair (k63) (.pair (k26) (k26)))
abbrev k123 : Kd := .agg (.pair (k63) (.pair (k26) (k26)))
abbrev k125 : Kd := .fn (.pair (k63) (k65)) (.pair (k123) (k43))
abbrev k165 : Kd := .agg (.pair (k40) (k40))
abbrev k126 : Kd := .sl 165 k165
abbrev k127 : Kd := .agg (.pair (k42) (.pair (k42) (k126)))
abbrev k128 : Kd := .agg (.pair (k42) (.pair (k42) (k126)))
abbrev k129 : Kd := .fn (.unit) (k128)
abbrev k130 : Kd := .fn (k65) (k114)
abbrev k170 : Kd := .sl 81 k81
abbrev k131 : Kd := .fn (.pair (k77) (k170)) (k43)
abbrev k132 : Kd := .agg (k77)
abbrev k133 : Kd := .agg (k77)
abbrev k134 : Kd := .fn (.pair (k81) (.pair (k81) (k3))) (k4)
abbrev k136 : Kd := .fn (k84) (k4)
abbrev k135 : Kd := .fn (.pair (k87) (k136)) (k4)
abbrev k137 : Kd := .fn (.pair (k40) (k40)) (k40)
abbrev k140 : Kd := .seq (k84)
abbrev k142 : Kd := .fn (.pair (k84) (k84)) (k3)
abbrev k138 : Kd := .fn (.pair (k140) (k142)) (k87)
abbrev k139 : Kd := .seq (k84)
abbrev k141 : Kd := .fn (k87) (k140)
abbrev k145 : Kd := .fn (k40) (k3)
abbrev k144 : Kd := .fn (.pair (k87) (.pair (k3) (.pair (k145) (k145)))) (.pair (k3) (k3))
abbrev k146 : Kd := .fn (.pair (k3) (k3)) (k89)
abbrev k147 : Kd := .fn (k32) (k43)
abbrev k148 : Kd := .fn (.unit) (k95)
abbrev k149 : Kd := .fn (k103) (k4)
abbrev k150 : Kd := .fn (.pair (k51) (k149)) (k4)
abbrev k151 : Kd := .int .u64
abbrev k152 : Kd := .int .u64
abbrev k155 : Kd := .agg (.pair (k3) (k3))
abbrev k153 : Kd := .fn (k155) (k3)
abbrev k154 : Kd := .agg (.pair (k3) (k3))
abbrev k159 : Kd := .agg (.pair (k48) (.pair (k51) (k42)))
abbrev k156 : Kd := .seq (k159)
abbrev k157 : Kd := .fn (.pair (k51) (k48)) (k156)
abbrev k158 : Kd := .agg (.pair (k48) (.pair (k51) (k42)))
abbrev k160 : Kd := .fn (.unit) (k100)
abbrev k161 : Kd := .fn (.pair (k42) (k121)) (k4)
abbrev k162 : Kd := .fn (k63) (.pair (k123) (k43))
abbrev k163 : Kd := .fn (.pair (k26) (k145)) (k42)
abbrev k164 : Kd := .agg (.pair (k40) (k40))
abbrev k167 : Kd := .fn (.pair (k65) (k3)) (k42)
abbrev k168 : Kd := .agg (.pair (k3) (k3))
abbrev k171 : Kd := .fn (k81) (k4)
abbrev k172 : Kd := .fn (.pair (k170) (k171)) (k4)
abbrev k173 : Kd := .fn (.pair (k3) (k3)) (k3)
abbrev k174 : Kd := .fn (.pair (k87) (k136)) (k3)
abbrev k175 : Kd := .fn (.pair (k40) (.pair (k3) (k3))) (k4)
abbrev k176 : Kd := .fn (k140) (k87)
abbrev k177 : Kd := .fn (.pair (k87) (k142)) (.unit)
abbrev k178 : Kd := .fn (k26) (k4)
abbrev k179 : Kd := .fn (.pair (k26) (k3)) (k4)
abbrev k181 : Kd := .fn (k37) (k4)
abbrev k180 : Kd := .fn (.pair (k30) (k181)) (k4)
abbrev k183 : Kd := .fn (k28) (k4)
abbrev k182 : Kd := .fn (.pair (k29) (k183)) (k4)
abbrev k208 : Kd := .seq (k98)
abbrev k184 : Kd := .fn (k208) (k95)
abbrev k185 : Kd := .seq (k98)
abbrev k188 : Kd := .agg (.pair (k108) (.pair (k108) (k108)))
abbrev k186 : Kd := .fn (.pair (k98) (k188)) (k185)
abbrev k187 : Kd := .agg (.pair (k108) (.pair (k108) (k108)))
abbrev k189 : Kd := .fn (.pair (k51) (k149)) (k3)
abbrev k190 : Kd := .fn (k159) (k4)
abbrev k191 : Kd := .fn (.pair (k42) (k173)) (.unit)
abbrev k192 : Kd := .fn (k42) (k42)
abbrev k193 : Kd := .fn (.pair (k42) (k121)) (k3)
abbrev k194 : Kd := .fn (k63) (k43)
abbrev k196 : Kd := .fn (.pair (k26) (k3)) (.pair (k26) (k4))
abbrev k198 : Kd := .fn (.pair (k3) (.pair (k3) (.pair (k3) (k3)))) (.pair (k3) (k4))
abbrev k199 : Kd := .fn (.pair (k170) (k171)) (k3)
abbrev k200 : Kd := .fn (.pair (k87) (k140)) (k87)
abbrev k201 : Kd := .fn (.pair (k87) (.pair (k3) (.pair (k3) (.pair (k3) (k142))))) (.unit)
abbrev k203 : Kd := .int .u64
abbrev k202 : Kd := .fn (k203) (k3)
abbrev k205 : Kd := .fn (k40) (k4)
abbrev k204 : Kd := .fn (.pair (k26) (k205)) (k4)
abbrev k206 : Kd := .fn (.pair (k30) (k181)) (k3)
abbrev k207 : Kd := .fn (.pair (k29) (k183)) (k3)
abbrev k209 : Kd := .fn (.pair (k95) (k208)) (k95)
abbrev k210 : Kd := .fn (k98) (k4)
abbrev k211 : Kd := .fn (k98) (k98)
abbrev k212 : Kd := .fn (.pair (k42) (.pair (k3) (k173))) (.unit)
abbrev k213 : Kd := .fn (.pair (k42) (.pair (k3) (.pair (k3) (.pair (k3) (k173))))) (.unit)
abbrev k216 : Kd := .fn (k113) (k4)
abbrev k214 : Kd := .fn (.pair (k61) (k216)) (k4)
abbrev k215 : Kd := .fn (.pair (k113) (k3)) (k4)
abbrev k217 : Kd := .fn (.pair (k40) (k40)) (k4)
abbrev k218 : Kd := .fn (k26) (k26)
abbrev k219 : Kd := .fn (k26) (.unit)
abbrev k220 : Kd := .fn (k42) (k3)
abbrev k221 : Kd := .fn (.pair (k87) (.pair (k3) (.pair (k3) (k142)))) (.unit)
abbrev k222 : Kd := .int .i64
abbrev k224 : Kd := .fn (.pair (k87) (.pair (k3) (.pair (k3) (k142)))) (.pair (k3) (k222))
abbrev k225 : Kd := .fn (.pair (k87) (.pair (k3) (.pair (k3) (k142)))) (k4)
abbrev k226 : Kd := .fn (.pair (k87) (.pair (k3) (.pair (k3) (.pair (k3) (k142))))) (k3)
abbrev k227 : Kd := .fn (.pair (k87) (.pair (k3) (.pair (k3) (.pair (k3) (k142))))) (.pair (k3) (k4))
abbrev k229 : Kd := .int .u32
abbrev k228 : Kd := .fn (k229) (k3)
abbrev k230 : Kd := .fn (k151) (k3)
abbrev k231 : Kd := .fn (.pair (k26) (k205)) (k3)
abbrev k232 : Kd := .fn (.pair (k42) (.pair (k3) (.pair (k3) (k173)))) (.unit)
abbrev k233 : Kd := .fn (.pair (k42) (.pair (k3) (.pair (k3) (k173)))) (.pair (k3) (k222))
abbrev k234 : Kd := .fn (.pair (k42) (.pair (k3) (.pair (k3) (k173)))) (k4)
abbrev k235 : Kd := .fn (.pair (k42) (.pair (k3) (.pair (k3) (.pair (k3) (k173))))) (k3)
abbrev k236 : Kd := .fn (.pair (k42) (.pair (k3) (.pair (k3) (.pair (k3) (k173))))) (.pair (k3) (k4))
abbrev k237 : Kd := .fn (.pair (k61) (k216)) (k3)
abbrev k238 : Kd := .int .u64
abbrev k239 : Kd := .fn (k3) (k203)
abbrev k240 : Kd := .fn (.unit) (k151)
abbrev k249 : Kd := .fn (.unit) (k9)
abbrev k255 : Kd := .fn (.unit) (k3)
abbrev k256 : Kd := .int .u8
abbrev k257 : Kd := .int .u8
abbrev k260 : Kd := .int .i32
abbrev k261 : Kd := .int .i32
abbrev k264 : Kd := .seq (k42)
abbrev k270 : Kd := .agg (.pair (k170) (k170))
abbrev k272 : Kd := .sl 203 k203
abbrev k265 : Kd := .fn (.pair (k270) (k3)) (k272)
abbrev k266 : Kd := .seq (k3)
abbrev k268 : Kd := .fn (k42) (k4)
abbrev k269 : Kd := .agg (.pair (k170) (k170))
abbrev k271 : Kd := .sl 203 k203
def tyT : List (Nat × TI) := [(1, ⟨k1, 8⟩), (2, ⟨k2, 8⟩), (3, ⟨k3, 8⟩), (4, ⟨k4, 1⟩), (5, ⟨k5, 1⟩), (6, ⟨k6, 1⟩), (7, ⟨k7, 24⟩), (8, ⟨k8, 24⟩), (9, ⟨k9, 16⟩), (10, ⟨k10, 16⟩), (11, ⟨k11, 16⟩), (12, ⟨k12, 8⟩), (13, ⟨k13, 24⟩), (14, ⟨k14, 24⟩), (21, ⟨k21, 4⟩), (22, ⟨k22, 4⟩), (23, ⟨k23, 8⟩), (24, ⟨k24, 8⟩), (25, ⟨k25, 24⟩), (26, ⟨k26, 24⟩), (27, ⟨k27, 32⟩), (28, ⟨k28, 32⟩), (29, ⟨k29, 24⟩), (30, ⟨k30, 24⟩), (31, ⟨k31, 48⟩), (32, ⟨k32, 48⟩), (33, ⟨k33, 16⟩), (34, ⟨k34, 32⟩), (35, ⟨k35, 3⟩), (36, ⟨k36, 24⟩), (37, ⟨k37, 24⟩), (38, ⟨k38, 8⟩), (39, ⟨k39, 16⟩), (40, ⟨k40, 16⟩), (41, ⟨k41, 8⟩), (42, ⟨k42, 24⟩), (43, ⟨k43, 8⟩), (45, ⟨k45, 8⟩), (46, ⟨k46, 8⟩), (47, ⟨k47, 24⟩), (48, ⟨k48, 24⟩), (50, ⟨k50, 8⟩), (51, ⟨k51, 24⟩), (52, ⟨k52, 8⟩), (54, ⟨k54, 8⟩), (55, ⟨k55, 8⟩), (56, ⟨k56, 8⟩), (57, ⟨k57, 2⟩), (58, ⟨k58, 12⟩), (59, ⟨k59, 64⟩), (60, ⟨k60, 64⟩), (61, ⟨k61, 24⟩), (62, ⟨k62, 80⟩), (63, ⟨k63, 80⟩), (64, ⟨k64, 32⟩), (65, ⟨k65, 32⟩), (67, ⟨k67, 8⟩), (68, ⟨k68, 8⟩), (69, ⟨k69, 16⟩), (70, ⟨k70, 16⟩), (71, ⟨k71, 8⟩), (72, ⟨k72, 8⟩), (73, ⟨k73, 8⟩), (74, ⟨k74, 8⟩), (75, ⟨k75, 8⟩), (76, ⟨k76, 32⟩), (77, ⟨k77, 32⟩), (79, ⟨k79, 8⟩), (80, ⟨k80, 32⟩), (81, ⟨k81, 32⟩), (82, ⟨k82, 8⟩), (83, ⟨k83, 40⟩), (84, ⟨k84, 40⟩), (86, ⟨k86, 8⟩), (87, ⟨k87, 24⟩), (88, ⟨k88, 16⟩), (89, ⟨k89, 16⟩), (91, ⟨k91, 8⟩), (92, ⟨k92, 32⟩), (93, ⟨k93, 48⟩), (94, ⟨k94, 48⟩), (95, ⟨k95, 24⟩), (97, ⟨k97, 8⟩), (98, ⟨k98, 24⟩), (99, ⟨k99, 8⟩), (100, ⟨k100, 24⟩), (101, ⟨k101, 8⟩), (102, ⟨k102, 24⟩), (103, ⟨k103, 24⟩), (104, ⟨k104, 8⟩), (105, ⟨k105, 48⟩), (106, ⟨k106, 48⟩), (107, ⟨k107, 56⟩), (108, ⟨k108, 56⟩), (109, ⟨k109, 8⟩), (110, ⟨k110, 8⟩), (111, ⟨k111, 8⟩), (112, ⟨k112, 48⟩), (113, ⟨k113, 48⟩), (114, ⟨k114, 24⟩), (116, ⟨k116, 8⟩), (117, ⟨k117, 8⟩), (118, ⟨k118, 16⟩), (119, ⟨k119, 16⟩), (120, ⟨k120, 8⟩), (121, ⟨k121, 8⟩), (122, ⟨k122, 128⟩), (123, ⟨k123, 128⟩), (125, ⟨k125, 8⟩), (126, ⟨k126, 24⟩), (127, ⟨k127, 72⟩), (128, ⟨k128, 72⟩), (129, ⟨k129, 8⟩), (130, ⟨k130, 8⟩), (131, ⟨k131, 8⟩), (132, ⟨k132, 32⟩), (133, ⟨k133, 32⟩), (134, ⟨k134, 8⟩), (135, ⟨k135, 8⟩), (136, ⟨k136, 8⟩), (137, ⟨k137, 8⟩), (138, ⟨k138, 8⟩), (139, ⟨k139, 8⟩), (140, ⟨k140, 8⟩), (141, ⟨k141, 8⟩), (142, ⟨k142, 8⟩), (144, ⟨k144, 8⟩), (145, ⟨k145, 8⟩), (146, ⟨k146, 8⟩), (147, ⟨k147, 8⟩), (148, ⟨k148, 8⟩), (149, ⟨k149, 8⟩), (150, ⟨k150, 8⟩), (151, ⟨k151, 8⟩), (152, ⟨k152, 8⟩), (153, ⟨k153, 8⟩), (154, ⟨k154, 16⟩), (155, ⟨k155, 16⟩), (156, ⟨k156, 8⟩), (157, ⟨k157, 8⟩), (158, ⟨k158, 72⟩), (159, ⟨k159, 72⟩), (160, ⟨k160, 8⟩), (161, ⟨k161, 8⟩), (162, ⟨k162, 8⟩), (163, ⟨k163, 8⟩), (164, ⟨k164, 32⟩), (165, ⟨k165, 32⟩), (167, ⟨k167, 8⟩), (168, ⟨k168, 16⟩), (169, ⟨k169, 16⟩), (170, ⟨k170, 24⟩), (171, ⟨k171, 8⟩), (172, ⟨k172, 8⟩), (173, ⟨k173, 8⟩), (174, ⟨k174, 8⟩), (175, ⟨k175, 8⟩), (176, ⟨k176, 8⟩), (177, ⟨k177, 8⟩), (178, ⟨k178, 8⟩), (179, ⟨k179, 8⟩), (180, ⟨k180, 8⟩), (181, ⟨k181, 8⟩), (182, ⟨k182, 8⟩), (183, ⟨k183, 8⟩), (184, ⟨k184, 8⟩), (185, ⟨k185, 8⟩), (186, ⟨k186, 8⟩), (187, ⟨k187, 168⟩), (188, ⟨k188, 168⟩), (189, ⟨k189, 8⟩), (190, ⟨k190, 8⟩), (191, ⟨k191, 8⟩), (192, ⟨k192, 8⟩), (193, ⟨k193, 8⟩), (194, ⟨k194, 8⟩), (196, ⟨k196, 8⟩), (198, ⟨k198, 8⟩), (199, ⟨k199, 8⟩), (200, ⟨k200, 8⟩), (201, ⟨k201, 8⟩), (202, ⟨k202, 8⟩), (203, ⟨k203, 8⟩), (204, ⟨k204, 8⟩), (205, ⟨k205, 8⟩), (206, ⟨k206, 8⟩), (207, ⟨k207, 8⟩), (208, ⟨k208, 8⟩), (209, ⟨k209, 8⟩), (210, ⟨k210, 8⟩), (211, ⟨k211, 8⟩), (212, ⟨k212, 8⟩), (213, ⟨k213, 8⟩), (214, ⟨k214, 8⟩), (215, ⟨k215, 8⟩), (216, ⟨k216, 8⟩), (217, ⟨k217, 8⟩), (218, ⟨k218, 8⟩), (219, ⟨k219, 8⟩), (220, ⟨k220, 8⟩), (221, ⟨k221, 8⟩), (222, ⟨k222, 8⟩), (224, ⟨k224, 8⟩), (225, ⟨k225, 8⟩), (226, ⟨k226, 8⟩), (227, ⟨k227, 8⟩), (228, ⟨k228, 8⟩), (229, ⟨k229, 4⟩), (230, ⟨k230, 8⟩), (231, ⟨k231, 8⟩), (232, ⟨k232, 8⟩), (233, ⟨k233, 8⟩), (234, ⟨k234, 8⟩), (235, ⟨k235, 8⟩), (236, ⟨k236, 8⟩), (237, ⟨k237, 8⟩), (238, ⟨k238, 8⟩), (239, ⟨k239, 8⟩), (240, ⟨k240, 8⟩), (249, ⟨k249, 8⟩), (255, ⟨k255, 8⟩), (256, ⟨k256, 1⟩), (257, ⟨k257, 1⟩), (260, ⟨k260, 4⟩), (261, ⟨k261, 4⟩), (264, ⟨k264, 8⟩), (265, ⟨k265, 8⟩), (266, ⟨k266, 8⟩), (268, ⟨k268, 8⟩), (269, ⟨k269, 48⟩), (270, ⟨k270, 48⟩), (271, ⟨k271, 24⟩), (272, ⟨k272, 24⟩)]
def slT : List (Nat × Nat) := [(25, 35), (26, 40), (29, 28), (30, 37), (42, 3), (51, 103), (61, 113), (87, 84), (95, 98), (98, 3), (100, 42), (114, 169), (126, 165), (170, 81), (271, 203), (272, 203)]
def flT : List ((Nat × Nat) × (Nat × Nat)) := [((7, 0), (0, 2)), ((7, 1), (1, 3)), ((7, 2), (2, 4)), ((7, 3), (3, 6)), ((8, 0), (0, 2)), ((8, 1), (1, 3)), ((8, 2), (2, 4)), ((8, 3), (3, 6)), ((13, 0), (0, 9)), ((13, 1), (1, 12)), ((14, 0), (0, 9)), ((14, 1), (1, 12)), ((27, 0), (0, 3)), ((27, 1), (1, 26)), ((28, 0), (0, 3)), ((28, 1), (1, 26)), ((31, 0), (0, 30)), ((31, 1), (1, 29)), ((32, 0), (0, 30)), ((32, 1), (1, 29)), ((36, 0), (0, 26)), ((37, 0), (0, 26)), ((39, 0), (0, 3)), ((39, 1), (1, 3)), ((40, 0), (0, 3)), ((40, 1), (1, 3)), ((47, 0), (0, 3)), ((47, 1), (1, 3)), ((47, 2), (2, 3)), ((48, 0), (0, 3)), ((48, 1), (1, 3)), ((48, 2), (2, 3)), ((59, 0), (0, 5)), ((59, 1), (1, 58)), ((59, 2), (13, 58)), ((59, 3), (25, 25)), ((59, 4), (26, 22)), ((60, 0), (0, 5)), ((60, 1), (1, 58)), ((60, 2), (13, 58)), ((60, 3), (25, 25)), ((60, 4), (26, 22)), ((62, 0), (0, 26)), ((62, 1), (1, 26)), ((62, 2), (2, 3)), ((62, 3), (3, 61)), ((63, 0), (0, 26)), ((63, 1), (1, 26)), ((63, 2), (2, 3)), ((63, 3), (3, 61)), ((64, 0), (0, 3)), ((64, 1), (1, 3)), ((64, 2), (2, 3)), ((64, 3), (3, 3)), ((65, 0), (0, 3)), ((65, 1), (1, 3)), ((65, 2), (2, 3)), ((65, 3), (3, 3)), ((69, 0), (0, 3)), ((69, 1), (1, 3)), ((70, 0), (0, 3)), ((70, 1), (1, 3)), ((76, 0), (0, 3)), ((76, 1), (1, 3)), ((76, 2), (2, 3)), ((76, 3), (3, 3)), ((77, 0), (0, 3)), ((77, 1), (1, 3)), ((77, 2), (2, 3)), ((77, 3), (3, 3)), ((80, 0), (0, 3)), ((80, 1), (1, 42)), ((81, 0), (0, 3)), ((81, 1), (1, 42)), ((83, 0), (0, 40)), ((83, 1), (2, 40)), ((83, 2), (4, 3)), ((84, 0), (0, 40)), ((84, 1), (2, 40)), ((84, 2), (4, 3)), ((88, 0), (0, 3)), ((88, 1), (1, 3)), ((89, 0), (0, 3)), ((89, 1), (1, 3)), ((93, 0), (0, 32)), ((94, 0), (0, 32)), ((102, 0), (0, 3)), ((102, 1), (1, 3)), ((102, 2), (2, 3)), ((103, 0), (0, 3)), ((103, 1), (1, 3)), ((103, 2), (2, 3)), ((107, 0), (0, 3)), ((107, 1), (1, 106)), ((108, 0), (0, 3)), ((108, 1), (1, 106)), ((112, 0), (0, 40)), ((112, 1), (2, 40)), ((112, 2), (4, 40)), ((113, 0), (0, 40)), ((113, 1), (2, 40)), ((113, 2), (4, 40)), ((118, 0), (0, 70)), ((119, 0), (0, 70)), ((122, 0), (0, 63)), ((122, 1), (4, 26)), ((122, 2), (5, 26)), ((123, 0), (0, 63)), ((123, 1), (4, 26)), ((123, 2), (5, 26)), ((127, 0), (0, 42)), ((127, 1), (1, 42)), ((127, 2), (2, 126)), ((128, 0), (0, 42)), ((128, 1), (1, 42)), ((128, 2), (2, 126)), ((132, 0), (0, 77)), ((133, 0), (0, 77)), ((154, 0), (0, 3)), ((154, 1), (1, 3)), ((155, 0), (0, 3)), ((155, 1), (1, 3)), ((158, 0), (0, 48)), ((158, 1), (3, 51)), ((158, 2), (4, 42)), ((159, 0), (0, 48)), ((159, 1), (3, 51)), ((159, 2), (4, 42)), ((164, 0), (0, 40)), ((164, 1), (2, 40)), ((165, 0), (0, 40)), ((165, 1), (2, 40)), ((168, 0), (0, 3)), ((168, 1), (1, 3)), ((169, 0), (0, 3)), ((169, 1), (1, 3)), ((269, 0), (0, 170)), ((269, 1), (1, 170)), ((270, 0), (0, 170)), ((270, 1), (1, 170)), ((22, 1000000), (4, 5)), ((33, 1000000), (2, 3)), ((34, 1000000), (2, 33)), ((35, 1000000), (3, 5)), ((57, 1000000), (2, 5)), ((58, 1000000), (6, 57)), ((92, 1000000), (2, 89)), ((105, 1000000), (3, 40)), ((106, 1000000), (3, 40)), ((187, 1000000), (3, 108)), ((188, 1000000), (3, 108))]
def eqT : List (Nat × Nat) := [(22, 4), (33, 2), (34, 4), (35, 3), (39, 2), (40, 2), (47, 3), (48, 3), (57, 2), (58, 12), (64, 4), (65, 4), (69, 2), (70, 2), (76, 4), (77, 4), (83, 5), (84, 5), (88, 2), (89, 2), (92, 4), (102, 3), (103, 3), (105, 6), (106, 6), (107, 7), (108, 7), (112, 6), (113, 6), (118, 2), (119, 2), (132, 4), (133, 4), (154, 2), (155, 2), (164, 4), (165, 4), (168, 2), (169, 2), (187, 21), (188, 21)]
def mkT : List (Nat × (Nat × Nat)) := []
def glT : List (Nat × GV) := []
def inlT : List Nat := []
def S00 (ct : List (Nat × Ct)) (lits : List Nat) : GX.Stat := Stat.of tyT slT flT eqT mkT glT ct inlT lits
def mpT : List (Nat × (Nat × Nat)) := [(166, (3, 42))]
def S1 (ct : List (Nat × Ct)) (ios : List (Nat × CtW)) (hos : List (Nat × CtH)) (lits : List Nat) : GX.Stat := (((S00 ct lits).withIo ios).withHov hos).withMpi mpT
end Go.Proofs.Tq
set_option maxRecDepth 100000
set_option maxHeartbeats 2000000
namespace Go.Proofs.Tq
open Go Go.GX Go.Proofs
variable [Inhabited BaseD]
theorem st_ok : statB Try.prog tyT slT flT eqT = true := by kernel_rfl
theorem mk_ok : AllMk Try.prog mkT := .nil
theorem in_ok : AllInl Try.prog inlT := AllInl.nil
theorem mp_ok : AllMpi Try.prog mpT := .cons rfl (by kernel_rfl) (by kernel_rfl) .nil
theorem env {ct : List (Nat × Ct)} {ios : List (Nat × CtW)} {hos : List (Nat × CtH)} {lits : List Nat} (h1 : AllOK Try.prog (assoc glT) ct) (h2 : AllW Try.prog (assoc glT) ios) (h3 : AllH Try.prog (assoc glT) hos) : EnvOK Try.prog (assoc glT) (S1 ct ios hos lits) :=
  (envOK_of lits st_ok mk_ok in_ok h1 h2 h3).mpi mp_ok
end Go.Proofs.Tq
namespace Go.Proofs.Tq
open Go.GX
abbrev no_an : Nat → Items := fun _ => []
def anL (l : List (Nat × Items)) : Nat → Items := fun n => match assoc l n with | some i => i | none => []
abbrev arg1 (a : Kd) : Kd := .pair a .unit
abbrev arg2 (a b : Kd) : Kd := .pair a (.pair b .unit)
abbrev arg3 (a b c : Kd) : Kd := .pair a (.pair b (.pair c .unit))
abbrev arg4 (a b c d : Kd) : Kd := .pair a (.pair b (.pair c (.pair d .unit)))
abbrev res2 (a b : Kd) : Kd := .pair a (.pair b .unit)
abbrev Span := Int × Int
def Says {α β : Type} (f : α → (β → Prop) → Prop) (p : α → β) (l : List α) : Prop := ∀ x, x ∈ l → ∀ Q : β → Prop, Q (p x) → f x Q
def Says2 {α β : Type} (f : α × α → (β → Prop) → Prop) (p : α → α → β) (l : List α) : Prop := ∀ x, x ∈ l → ∀ y, y ∈ l → ∀ Q : β → Prop, Q (p x y) → f (x, y) Q

def idxF {α : Type} (p : α → Bool) (xs : List α) : Int :=
  match xs.findIdx? p with
  | some i => (i : Int)
  | none => -1

def idx_an : Nat → Items
  | 0 => [.t 8 k3]
  | _ => []
def f104_wp : List Int × (Int → (Bool → Prop) → Prop) × Unit → Unit → (Int → Prop) → Prop := fun a _ Q => ∃ p : Int → Bool, Says a.2.1 p a.1 ∧ Q (idxF p a.1)
def f104_ct : Ct := ⟨arg2 k42 k121, .unit, k3, f104_wp, false, false⟩
def f65_wp : List Int × (Int → (Bool → Prop) → Prop) × Unit → Unit → (Bool → Prop) → Prop := fun a _ Q => ∃ p : Int → Bool, Says a.2.1 p a.1 ∧ Q (a.1.any p)
def f65_ct : Ct := ⟨arg2 k42 k121, .unit, .bool, f65_wp, false, false⟩
def f101_wp : List Int → Unit → (List Int → Prop) → Prop := fun xs _ Q => xs.length ≤ 1000000 ∧ Q xs
def f101_ct : Ct := ⟨k42, .unit, k42, f101_wp, false, true⟩
def f126_wp : Int → Unit → (Bool → Prop) → Prop := fun _ _ Q => Q false
def f126_ct : Ct := ⟨k3, .unit, .bool, f126_wp, false, false⟩
def cmpI3 (a b : Int) : Int := if a < b then -1 else if b < a then 1 else 0
def f100_wp : Int × Int × Unit → Unit → (Int → Prop) → Prop := fun a _ Q => Q (cmpI3 a.1 a.2.1)
def f100_ct : Ct := ⟨arg2 k3 k3, .unit, k3, f100_wp, false, false⟩
def f146_wp : Int → Unit → (Int → Prop) → Prop := fun _ _ Q => ∀ r, Q r
def f146_ct : Ct := ⟨k151, .unit, k3, f146_wp, false, false⟩
def f146_an : Nat → Items
  | 2000002 => [.t 0 k151, .t 2 k3]
  | 2000005 => [.t 0 k151, .t 2 k3]
  | 2000008 => [.t 0 k151, .t 2 k3]
  | _ => []
def f114_wp : Int → Unit → (Int → Prop) → Prop := fun _ _ Q => ∀ r, Q r
def f114_ct : Ct := ⟨k203, .unit, k3, f114_wp, false, false⟩
def insRev {α : Type} (c : α → α → Int) (x : α) : List α → List α
  | [] => [x]
  | y :: r => if c x y < 0 then y :: insRev c x r else x :: y :: r
def insSort {α : Type} (c : α → α → Int) (xs : List α) : List α := (xs.foldl (fun acc x => insRev c x acc) []).reverse
abbrev CmpT (α : Type) := α × α → (Int → Prop) → Prop
def ins_an (e : Nat) (K : Kd) : Nat → Items
  | 0 => [.t 8 k3, .lrow 7000000 false e K]
  | 2 => [.t 9 k3, .lrow 7000000 false e K]
  | _ => []
def f148_wp : List Int → Int × Int × CmpT Int × Unit → Unit → (Unit → List Int → Prop) → Prop := fun ys a _ Q => ∃ c : Int → Int → Int, Says2 a.2.2.1 c ys ∧ a.1 = 0 ∧ a.2.1 = (ys.length : Int) ∧ ys.length ≤ 1000000 ∧ Q () (insSort c ys)
def f148_ct : CtW := ⟨3, k3, arg3 k3 k3 k173, .unit, .unit, f148_wp⟩
def f125_wp : List Int → Int × CmpT Int × Unit → Unit → (Unit → List Int → Prop) → Prop := fun ys a _ Q => ∃ c : Int → Int → Int, Says2 a.2.1 c ys ∧ a.1 = (ys.length : Int) ∧ ys.length ≤ 12 ∧ Q () (insSort c ys)
def f125_ct : CtW := ⟨3, k3, arg2 k3 k173, .unit, .unit, f125_wp⟩
def f125_an : Nat → Items
  | 0 => [.t 7 k3, .t 8 k3, .lrow 7000000 false 3 k3]
  | 2 => [.t 6 k3]
  | _ => []
def f98_wp : List Int → CmpT Int × Unit → Unit → (Unit → List Int → Prop) → Prop := fun ys a _ Q => ∃ c : Int → Int → Int, Says2 a.1 c ys ∧ ys.length ≤ 12 ∧ Q () (insSort c ys)
def f98_ct : CtW := ⟨3, k3, arg1 k173, .unit, .unit, f98_wp⟩
def ins3_an := ins_an 3 k3
def inB (lo hi n : Int) : Bool := decide (lo ≤ n) && decide (n ≤ hi)

def f127_wp : List Int → Int × Int × Int × CmpT Int × Unit → Unit → (Unit → List Int → Prop) → Prop := fun ys a _ Q => ∃ c : Int → Int → Int, Says2 a.2.2.2.1 c ys ∧ a.1 = 0 ∧ a.2.1 = (ys.length : Int) ∧ ys.length ≤ 12 ∧ Q () (insSort c ys)
def f127_ct : CtW := ⟨3, k3, arg4 k3 k3 k3 k173, .unit, .unit, f127_wp⟩
def f127_an : Nat → Items
  | 0 => [.t 1 k3, .t 2 k3, .t 3 k3]
  | _ => []
def f102_wp : List Int → CmpT Int × Unit → Unit → (Unit → List Int → Prop) → Prop := fun ys a _ Q => ∃ c : Int → Int → Int, Says2 a.1 c ys ∧ ys.length ≤ 12 ∧ Q () (insSort c ys)
def f102_ct : CtW := ⟨3, k3, arg1 k173, .unit, .unit, f102_wp⟩

abbrev Cut := Int × Int × Int
abbrev Rule := Int × Int × Int
abbrev Heap := Rule × List Cut × List Int
abbrev c0 : Cut := (0, 0, 0)
def f67_wp : Int → Int × Int × Unit → (Bool → Prop) → Prop := fun n c Q => Q (!inB c.1 c.2.1 n)
def f67_ct : Ct := ⟨k3, arg2 (.ptr 3 k3) (.ptr 3 k3), .bool, f67_wp, false, false⟩
def f37_wp : Int × Int × List Int × Unit → Unit → (Bool → Prop) → Prop := fun a _ Q => Q (a.2.2.1.all (inB a.1 a.2.1))
def f37_ct : Ct := ⟨arg3 k3 k3 k42, .unit, .bool, f37_wp, false, false⟩
def cutB (c : Cut) : Bool := inB 0 3 c.1 && inB 1 12 c.2.1 && inB 1 1000 c.2.2
def f60_wp : Cut → Unit → (Bool → Prop) → Prop := fun c _ Q => Q (!cutB c)
def f60_ct : Ct := ⟨k103, .unit, .bool, f60_wp, false, false⟩
def f96_wp : List Cut × (Cut → (Bool → Prop) → Prop) × Unit → Unit → (Int → Prop) → Prop := fun a _ Q => ∃ p : Cut → Bool, Says a.2.1 p a.1 ∧ Q (idxF p a.1)
def f96_ct : Ct := ⟨arg2 k51 k149, .unit, k3, f96_wp, false, false⟩
def f61_wp : List Cut × (Cut → (Bool → Prop) → Prop) × Unit → Unit → (Bool → Prop) → Prop := fun a _ Q => ∃ p : Cut → Bool, Says a.2.1 p a.1 ∧ Q (a.1.any p)
def f61_ct : Ct := ⟨arg2 k51 k149, .unit, .bool, f61_wp, false, false⟩
def atF (c : Cut) : Int := c.1 * 12 + c.2.1 - 1
def f62_wp : Int × Int → Unit → (Int → Prop) → Prop := fun s _ Q => (0 ≤ s.1 ∧ s.1 ≤ 3 ∧ 1 ≤ s.2 ∧ s.2 ≤ 12) ∧ Q (s.1 * 12 + s.2 - 1)
def f62_ct : Ct := ⟨k155, .unit, k3, f62_wp, false, false⟩
def ruleB (f : Rule) : Bool := inB 2 12 f.1 && inB 0 100 f.2.1 && inB 0 1000 f.2.2

def twiceB (l : List Cut) : Bool := decide ¬ (l.map atF).Nodup
def openC (l : List Cut) (f : Rule) : Int := if 24 < l.length then 5 else if l.any (fun c => !cutB c) then 2 else if twiceB l then 6 else if ruleB f then 0 else 3
def f29_wp : List Cut × Rule × Unit → Unit → (Int → Prop) → Prop := fun a _ Q => Q (openC a.1 a.2.1)
def f29_ct : Ct := ⟨arg2 k51 k48, .unit, k43, f29_wp, false, false⟩
def f29_an : Nat → Items := anL [(1, [.t 20 k3, .t 6 k152]), (1000015, [.t 58 .bool])]

structure CutsOK (l : List Cut) : Prop where
  n : l.length ≤ 24
  c : ∀ c, c ∈ l → cutB c = true
  one : (l.map atF).Nodup
def f99_wp : Int × Int → List Cut × Unit → (Int → Prop) → Prop := fun a c Q => (0 ≤ a.1 ∧ a.1 < (c.1.length : Int) ∧ 0 ≤ a.2 ∧ a.2 < (c.1.length : Int)) ∧ Q (cmpI3 (c.1.getD a.1.toNat c0).2.2 (c.1.getD a.2.toNat c0).2.2)
def f99_ct : Ct := ⟨.pair k3 k3, arg1 (.ptr 51 k51), k3, f99_wp, false, false⟩
def f103_wp : Int × Int → Heap × Unit → (Int → Prop) → Prop := fun a c Q => (0 ≤ a.1 ∧ a.1 < (c.1.2.1.length : Int) ∧ 0 ≤ a.2 ∧ a.2 < (c.1.2.1.length : Int)) ∧ Q (cmpI3 (c.1.2.1.getD a.1.toNat c0).2.1 (c.1.2.1.getD a.2.toNat c0).2.1)
def f103_ct : Ct := ⟨.pair k3 k3, arg1 (.ptr 159 k159), k3, f103_wp, false, false⟩

def numsF (l : List Cut) (t : Int) : List Int := ((List.range l.length).map fun (i : Nat) => (i : Int)).filter fun i => (l.getD i.toNat c0).1 == t
def thickC (l : List Cut) (a b : Int) : Int := cmpI3 (l.getD a.toNat c0).2.2 (l.getD b.toNat c0).2.2
def placeC (l : List Cut) (a b : Int) : Int := cmpI3 (l.getD a.toNat c0).2.1 (l.getD b.toNat c0).2.1
def heapF (l : List Cut) (f : Rule) (t : Int) : Heap := (f, l, insSort (thickC l) (numsF l t))
def heapsF (l : List Cut) (f : Rule) : List Heap := (List.range 4).map fun (t : Nat) => heapF l f t
def f63_wp : List Cut × Rule × Unit → Unit → (List Heap → Prop) → Prop := fun a _ Q => CutsOK a.1 ∧ Q (heapsF a.1 a.2.1)
def f63_ct : Ct := ⟨arg2 k51 k48, .unit, k156, f63_wp, false, false⟩

def goB (h : Heap) (some : List Int) : Bool := decide ((h.2.1.getD (some.getD (h.1.1 - 1).toNat 0).toNat c0).2.2 - (h.2.1.getD (some.getD 0 0).toNat c0).2.2 + 2 * h.1.2.1 ≤ h.1.2.2)

def fansN (h : Heap) : Nat → List Int → List (List Int)
  | 0, _ => []
  | n + 1, rest => if rest.length < h.1.1.toNat then [] else if goB h (rest.take h.1.1.toNat) then insSort (placeC h.2.1) (rest.take h.1.1.toNat) :: fansN h n (rest.drop h.1.1.toNat) else fansN h n (rest.drop 1)
def fansH (h : Heap) : List (List Int) := fansN h h.2.2.length h.2.2
structure HeapOK (h : Heap) : Prop where
  f : ruleB h.1 = true
  l : h.2.1.length ≤ 24
  c : ∀ c, c ∈ h.2.1 → cutB c = true
  n : h.2.2.length ≤ 24
  i : ∀ i, i ∈ h.2.2 → 0 ≤ i ∧ i < (h.2.1.length : Int)
def f64_wp : Heap → Unit → (List (List Int) → Prop) → Prop := fun h _ Q => HeapOK h ∧ Q (fansH h)
def f64_ct : Ct := ⟨k159, .unit, k100, f64_wp, false, false⟩
def f64_an : Nat → Items := anL [(0, [.t 3 k3, .row 2 5001 false 42 k42])]
def fansC (l : List Cut) (f : Rule) : List (List Int) := ((heapsF l f).map fansH).flatten
def f30_wp : List Cut × Rule × Unit → Unit → (List (List Int) → Prop) → Prop := fun a _ Q => (CutsOK a.1 ∧ ruleB a.2.1 = true) ∧ Q (fansC a.1 a.2.1)
def f30_ct : Ct := ⟨arg2 k51 k48, .unit, k100, f30_wp, false, false⟩
def f30_an : Nat → Items := anL [(0, [.crow 1 100 5001 false 42 k42 .unit])]
def mostC (l : List Cut) (f : Rule) : Int × Int × Unit := if openC l f = 0 then ((fansC l f).length, 0, ()) else (0, openC l f, ())
def f12_wp : List Cut × Rule × Unit → Unit → (Int × Int × Unit → Prop) → Prop := fun a _ Q => Q (mostC a.1 a.2.1)
def f12_ct : Ct := ⟨arg2 k51 k48, .unit, res2 k3 k43, f12_wp, false, false⟩

abbrev Loss := Int × Int
def lossB (l : Loss) : Bool := inB 2 10 l.1 && inB 0 l.1 l.2
def f36_wp : Loss → Unit → (Bool → Prop) → Prop := fun l _ Q => Q (lossB l)
def f36_ct : Ct := ⟨k70, .unit, .bool, f36_wp, false, false⟩
def brF (l : Loss) (n : Int) : Int := n / l.1 * l.2 + min (n % l.1) l.2
def f38_wp : Loss × Int × Unit → Unit → (Int → Prop) → Prop := fun a _ Q => (lossB a.1 = true ∧ 0 ≤ a.2.1 ∧ a.2.1 ≤ 1000000) ∧ Q (brF a.1 a.2.1)
def f38_ct : Ct := ⟨arg2 k119 k3, .unit, k3, f38_wp, false, false⟩
def wholeF (l : Loss) (n : Int) : Span × Int × Unit := if lossB l = false then ((0, 0), 2, ()) else if inB 0 1000000 n = false then ((0, 0), 3, ()) else ((n - brF l n, n), 0, ())
def f18_wp : Loss × Int × Unit → Unit → (Span × Int × Unit → Prop) → Prop := fun a _ Q => Q (wholeF a.1 a.2.1)
def fewB (l : Loss) (want n : Int) : Bool := decide (n - brF l n < want)
def f39_wp : Int → Loss × Int × Unit → (Bool → Prop) → Prop := fun n c Q => (lossB c.1 = true ∧ 0 ≤ n ∧ n ≤ 1000000) ∧ Q (fewB c.1 c.2.1 n)
def f39_ct : Ct := ⟨k3, arg2 (.ptr 70 k70) (.ptr 3 k3), .bool, f39_wp, false, false⟩

def f19_wp : Loss × Int × Unit → Unit → (Int × Int × Unit → Prop) → Prop := fun a _ Q =>
  (lossB a.1 = false → Q (0, 2, ())) ∧ (lossB a.1 = true → (inB 0 1000000 a.2.1 = false → Q (0, 3, ())) ∧ (inB 0 1000000 a.2.1 = true →
    (fewB a.1 a.2.1 1000000 = true → Q (0, 7, ())) ∧ (fewB a.1 a.2.1 1000000 = false → ∀ n : Nat, n ≤ 1000000 → fewB a.1 a.2.1 n = false → (∀ m : Nat, m < n → fewB a.1 a.2.1 m = true) → Q ((n : Int), 0, ()))))
def f19_ct : Ct := ⟨arg2 k70 k3, .unit, res2 k3 k43, f19_wp, false, false⟩
def f19_an : Nat → Items := anL [(1, [.t 7 k3, .t 8 k3])]
def f20_wp : Unit → Unit → (Bool → Prop) → Prop := fun _ _ Q => Q true
def f20_ct : Ct := ⟨.unit, .unit, .bool, f20_wp, false, false⟩

def cutsK (tooth thick : Int) (many : Nat) : List Cut := (List.range many).map fun (i : Nat) => (tooth, 1 + (i : Int), thick)
def f13_wp : Int × Int × Int × Unit → Unit → (List Cut → Prop) → Prop := fun a _ Q => (0 ≤ a.2.1 ∧ a.2.1 ≤ 1000) ∧ Q (cutsK a.1 a.2.2.1 a.2.1.toNat)
def f13_ct : Ct := ⟨arg3 k3 k3 k3, .unit, k51, f13_wp, false, true⟩
def f13_an : Nat → Items := anL [(0, [.t 8 k3, .row 7 5001 true 103 k103])]
end Go.Proofs.Tq
namespace Go.Proofs.Tq
open Go.GX
abbrev arg5 (a b c d e : Kd) : Kd := .pair a (.pair b (.pair c (.pair d (.pair e .unit))))
abbrev Crack := Span × Span × Span
abbrev Blade := List Span × List Span × Int × List Crack
abbrev Saw := Int × Int × Int × Int
abbrev Opened := Blade × List Span × List Span
abbrev Spoil := Span × Span
abbrev View := List Int × List Int × List Spoil
abbrev Place := Int × Int

def f69_wp : Int → Int × Int × Unit → (Bool → Prop) → Prop := fun n c Q => Q (!inB c.1 c.2.1 n)
def f69_ct : Ct := ⟨k3, arg2 (.ptr 3 k3) (.ptr 3 k3), .bool, f69_wp, false, false⟩
def f41_wp : Int × Int × List Int × Unit → Unit → (Bool → Prop) → Prop := fun a _ Q => Q (a.2.2.1.all (inB a.1 a.2.1))
def f41_ct : Ct := ⟨arg3 k3 k3 k42, .unit, .bool, f41_wp, false, false⟩
def spanB (lo hi : Int) (s : Span) : Bool := inB lo hi s.1 && inB lo hi s.2 && decide (s.1 ≤ s.2)
def f158_wp : Span × Int × Int × Unit → Unit → (Bool → Prop) → Prop := fun a _ Q => Q (spanB a.2.1 a.2.2.1 a.1)
def f158_ct : Ct := ⟨arg3 k40 k3 k3, .unit, .bool, f158_wp, false, false⟩
def f159_wp : Span → Unit → (Bool → Prop) → Prop := fun s _ Q => Q (spanB 0 300 s)
def f159_ct : Ct := ⟨k40, .unit, .bool, f159_wp, false, false⟩
def edgesB (b t : Span) : Bool := spanB 0 300 b && spanB 0 300 t && decide (b.2 ≤ t.1)
def f131_wp : Span × Span × Unit → Unit → (Bool → Prop) → Prop := fun a _ Q => Q (edgesB a.1 a.2.1)
def f131_ct : Ct := ⟨arg2 k40 k40, .unit, .bool, f131_wp, false, false⟩
def crackB (n : Int) (c : Crack) : Bool := spanB 0 (n - 1) c.1 && decide (c.1.2 - c.1.1 < 5) && edgesB c.2.1 c.2.2
def f130_wp : Crack × Int × Unit → Unit → (Bool → Prop) → Prop := fun a _ Q => (1 ≤ a.2.1 ∧ a.2.1 ≤ 30) ∧ Q (crackB a.2.1 a.1)
def f130_ct : Ct := ⟨arg2 k113 k3, .unit, .bool, f130_wp, false, false⟩
def f129_wp : Crack → Int × Unit → (Bool → Prop) → Prop := fun c n Q => (1 ≤ n.1 ∧ n.1 ≤ 30) ∧ Q (!crackB n.1 c)
def f129_ct : Ct := ⟨k113, arg1 (.ptr 3 k3), .bool, f129_wp, false, false⟩
def f157_wp : List Crack × (Crack → (Bool → Prop) → Prop) × Unit → Unit → (Int → Prop) → Prop := fun a _ Q => ∃ p : Crack → Bool, Says a.2.1 p a.1 ∧ Q (idxF p a.1)
def f157_ct : Ct := ⟨arg2 k61 k216, .unit, k3, f157_wp, false, false⟩
def f128_wp : List Crack × (Crack → (Bool → Prop) → Prop) × Unit → Unit → (Bool → Prop) → Prop := fun a _ Q => ∃ p : Crack → Bool, Says a.2.1 p a.1 ∧ Q (a.1.any p)
def f128_ct : Ct := ⟨arg2 k61 k216, .unit, .bool, f128_wp, false, false⟩

structure BladeOK (b : Blade) : Prop where
  n1 : 1 ≤ b.1.length
  n2 : b.1.length ≤ 6
  nt : b.2.1.length = b.1.length
  bo : ∀ s, s ∈ b.1 → 0 ≤ s.1 ∧ s.1 ≤ s.2 ∧ s.2 ≤ 39
  to : ∀ s, s ∈ b.2.1 → 40 ≤ s.1 ∧ s.1 ≤ s.2 ∧ s.2 ≤ 110
  be : b.2.2.1 = 300
  nc : b.2.2.2.length ≤ 2
  cr : ∀ c, c ∈ b.2.2.2 → crackB b.1.length c = true
structure SawOK (s : Saw) : Prop where
  l1 : 1 ≤ s.1
  l2 : s.1 ≤ 30
  w1 : 1 ≤ s.2.1
  w2 : s.2.1 ≤ 300
  k1 : 0 ≤ s.2.2.1
  k2 : s.2.2.1 ≤ 50
  a1 : 0 ≤ s.2.2.2
  a2 : s.2.2.2 ≤ 50
def f105_wp : Blade → Unit → (Int → Prop) → Prop := fun b _ Q => BladeOK b ∧ Q 0
def f105_ct : Ct := ⟨k63, .unit, k43, f105_wp, false, false⟩
def f105_an : Nat → Items := anL [(1, [.t 34 k3])]

def meetF (a b : Span) : Span := (max a.1 b.1, min a.2 b.2)
def f133_wp : Span × Span × Unit → Unit → (Span → Prop) → Prop := fun a _ Q => Q (meetF a.1 a.2.1)
def f133_ct : Ct := ⟨arg2 k40 k40, .unit, k40, f133_wp, false, false⟩
def f132_wp : List Span → Unit → (List Span → Prop) → Prop := fun xs _ Q => xs.length ≤ 1000000 ∧ Q xs
def f132_ct : Ct := ⟨k26, .unit, k26, f132_wp, false, true⟩
def f134_wp : List Span → Unit → Unit → (Unit → List Span → Prop) → Prop := fun ys _ _ Q => ys.length ≤ 1000000 ∧ Q () ys.reverse
def f134_ct : CtW := ⟨40, k40, .unit, .unit, .unit, f134_wp⟩
def f134_an : Nat → Items
  | 0 => [.t 2 k3, .t 3 k3, .lrow 7000000 false 40 k40]
  | _ => []
def f106_wp : List Span × Int × Unit → Unit → (List Span × Bool × Unit → Prop) → Prop := fun a _ Q => (a.2.1 = 300 ∧ a.1.length ≤ 30 ∧ ∀ s, s ∈ a.1 → 0 ≤ s.1 ∧ s.1 ≤ s.2 ∧ s.2 ≤ 110) ∧ Q (a.1, true, ())
def f106_ct : Ct := ⟨arg2 k26 k3, .unit, res2 k26 k4, f106_wp, false, false⟩
def f106_an : Nat → Items := anL [(0, [.t 10 k3, .row 4 5001 false 40 k40]), (2, [.t 6 k3, .row 4 5002 false 40 k40])]
def f68_wp : Blade → Unit → (Opened × Int × Unit → Prop) → Prop := fun b _ Q => BladeOK b ∧ Q ((b, b.1, b.2.1), 0, ())
def f68_ct : Ct := ⟨k63, .unit, res2 k123 k43, f68_wp, false, false⟩
def f40_wp : Blade × Saw × Unit → Unit → (Opened × Int × Unit → Prop) → Prop := fun a _ Q => (BladeOK a.1 ∧ SawOK a.2.1) ∧ Q ((a.1, a.1.1, a.1.2.1), 0, ())
def f40_ct : Ct := ⟨arg2 k63 k65, .unit, res2 k123 k43, f40_wp, false, false⟩

def f71_wp : Span → Unit → (Int → Prop) → Prop := fun s _ Q => Q s.2
def f71_ct : Ct := ⟨k40, .unit, k3, f71_wp, false, false⟩
def f72_wp : Span → Unit → (Int → Prop) → Prop := fun s _ Q => Q s.1
def f72_ct : Ct := ⟨k40, .unit, k3, f72_wp, false, false⟩
def f70_wp : List Span × (Span → (Int → Prop) → Prop) × Unit → Unit → (List Int → Prop) → Prop := fun a _ Q => a.1.length ≤ 30 ∧ ∃ p : Span → Int, Says a.2.1 p a.1 ∧ Q (a.1.map p)
def f70_ct : Ct := ⟨arg2 k26 k145, .unit, k42, f70_wp, false, false⟩
def f70_an : Nat → Items := anL [(0, [.t 9 k3, .row 4 5001 false 3 k3])]
def sureF (b : Opened) : View := (b.2.1.map (·.2), b.2.2.map (·.1), b.1.2.2.2.map fun c => (c.1, (c.2.1.1, c.2.2.2)))
def f42_wp : Opened → Unit → (View → Prop) → Prop := fun b _ Q => (b.2.1.length ≤ 30 ∧ b.2.2.length ≤ 30 ∧ b.1.2.2.2.length ≤ 4) ∧ Q (sureF b)
def f42_ct : Ct := ⟨k123, .unit, k128, f42_wp, false, false⟩
def f42_an : Nat → Items := anL [(0, [.t 17 k3, .drow 107 128 (.pair k42 k42) 5001 false 165 k165])]
def maxL (xs : List Int) : Int := (xs.drop 1).foldl max (xs.getD 0 0)
def minL (xs : List Int) : Int := (xs.drop 1).foldl min (xs.getD 0 0)
def f135_wp : List Int → Unit → (Int → Prop) → Prop := fun xs _ Q => 1 ≤ xs.length ∧ Q (maxL xs)
def f135_ct : Ct := ⟨k42, .unit, k3, f135_wp, false, false⟩
def f135_an : Nat → Items := anL [(0, [.t 4 k3, .t 3 k3])]
def f136_wp : List Int → Unit → (Int → Prop) → Prop := fun xs _ Q => 1 ≤ xs.length ∧ Q (minL xs)
def f136_ct : Ct := ⟨k42, .unit, k3, f136_wp, false, false⟩
structure ViewOK (v : View) : Prop where
  n : v.1.length ≤ 30
  t : v.2.1.length = v.1.length
  b : ∀ y, y ∈ v.1 → 0 ≤ y ∧ y ≤ 300
  h : ∀ y, y ∈ v.2.1 → 0 ≤ y ∧ y ≤ 300
  s : ∀ s, s ∈ v.2.2 → 0 ≤ s.1.1 ∧ s.1.2 ≤ 30 ∧ 0 ≤ s.2.1 ∧ s.2.2 ≤ 300
def roomF (v : View) (x long : Int) : Span := (maxL ((v.1.drop x.toNat).take long.toNat), minL ((v.2.1.drop x.toNat).take long.toNat))
def f107_wp : View × Int × Int × Unit → Unit → (Span → Prop) → Prop := fun a _ Q => (ViewOK a.1 ∧ 0 ≤ a.2.1 ∧ 1 ≤ a.2.2.1 ∧ a.2.1 + a.2.2.1 ≤ (a.1.1.length : Int)) ∧ Q (roomF a.1 a.2.1 a.2.2.1)
def f107_ct : Ct := ⟨arg3 k128 k3 k3, .unit, k40, f107_wp, false, false⟩
def hitB (x long y wide : Int) (s : Spoil) : Bool := decide (max s.1.1 x ≤ min s.1.2 (x + long - 1)) && decide (s.2.2 > y) && decide (s.2.1 < y + wide)
def spoiltF (v : View) (x long y wide : Int) : Int × Bool × Unit := match v.2.2.find? (hitB x long y wide) with | some s => (s.2.2, true, ()) | none => (0, false, ())
def f108_wp : View × Int × Int × Int × Int × Unit → Unit → (Int × Bool × Unit → Prop) → Prop := fun a _ Q => (ViewOK a.1 ∧ (0 ≤ a.2.1 ∧ a.2.1 ≤ 30) ∧ (1 ≤ a.2.2.1 ∧ a.2.2.1 ≤ 30) ∧ (0 ≤ a.2.2.2.1 ∧ a.2.2.2.1 ≤ 300) ∧ (1 ≤ a.2.2.2.2.1 ∧ a.2.2.2.2.1 ≤ 300)) ∧ Q (spoiltF a.1 a.2.1 a.2.2.1 a.2.2.2.1 a.2.2.2.2.1)
def f108_ct : Ct := ⟨arg5 k128 k3 k3 k3 k3, .unit, res2 k3 k4, f108_wp, false, false⟩
def f108_an : Nat → Items := anL [(0, [.t 18 k3])]

def blockN (v : View) (s : Saw) (x hi : Int) : Nat → Int → List Int
  | 0, _ => []
  | n + 1, y => if y + s.2.1 ≤ hi then (if (spoiltF v x s.1 y s.2.1).2.1 then blockN v s x hi n (spoiltF v x s.1 y s.2.1).1 else y :: blockN v s x hi n (y + (s.2.1 + s.2.2.1))) else []
def blockF (v : View) (s : Saw) (x : Int) : List Int := blockN v s x (roomF v x s.1).2 302 (roomF v x s.1).1
def f73_wp : View × Saw × Int × Unit → Unit → (List Int → Prop) → Prop := fun a _ Q => (ViewOK a.1 ∧ SawOK a.2.1 ∧ 0 ≤ a.2.2.1 ∧ a.2.2.1 + a.2.1.1 ≤ (a.1.1.length : Int)) ∧ ∀ l : List Int, l = blockF a.1 a.2.1 a.2.2.1 → Q l
def f73_ct : Ct := ⟨arg3 k128 k65 k3, .unit, k42, f73_wp, false, false⟩
def f73_an : Nat → Items := anL [(0, [.t 8 k3, .row 6 5001 false 3 k3])]

def bestF (c : Nat → Nat) (n L A : Nat) (x : Nat) : Nat :=
  if h : x + L ≤ n ∧ 1 ≤ L then max (bestF c n L A (x + 1)) (c x + bestF c n L A (x + L + A)) else 0
termination_by n - x
decreasing_by all_goals omega
def sticksF (v : View) (s : Saw) : Nat := bestF (fun x => (blockF v s x).length) v.1.length s.1.toNat s.2.2.2.toNat 0

def mostG (b : Nat → List Int) (n L A : Nat) (x : Nat) : List Place :=
  if h : x + L ≤ n ∧ 1 ≤ L then (if (b x).length + bestF (fun x => (b x).length) n L A (x + L + A) < bestF (fun x => (b x).length) n L A x ∨ (b x).length = 0 then mostG b n L A (x + 1) else (b x).map (fun y => ((x : Int), y)) ++ mostG b n L A (x + L + A)) else []
termination_by n - x
decreasing_by all_goals omega
def mostL (v : View) (s : Saw) : List Place := mostG (fun x => blockF v s x) v.1.length s.1.toNat s.2.2.2.toNat 0
def f44_wp : View × Saw × Unit → Unit → (List Place → Prop) → Prop := fun a _ Q => (ViewOK a.1 ∧ SawOK a.2.1) ∧ ∀ l : List Place, l = mostL a.1 a.2.1 → Q l
def f44_ct : Ct := ⟨arg2 k128 k65, .unit, k114, f44_wp, false, false⟩
def f44_an : Nat → Items := anL [(0, [.t 8 k3, .lrow 208 true 3 k3, .lmap 300 .i64 k42]), (2, [.t 9 k3, .row 4 5001 false 169 k169]), (4, [.t 102 k3, .row 4 5002 false 169 k169]), (1000011, [.t 95 .bool])]
abbrev sureOf (b : Blade) : View := sureF (b, b.1, b.2.1)
def f35_wp : Blade × Saw × Unit → Unit → (List Place × Int × Unit → Prop) → Prop := fun a _ Q => (BladeOK a.1 ∧ SawOK a.2.1) ∧ ∀ l : List Place, l = mostL (sureOf a.1) a.2.1 → Q (l, 0, ())
def f35_ct : Ct := ⟨arg2 k63 k65, .unit, res2 k114 k43, f35_wp, false, false⟩
end Go.Proofs.Tq
namespace Go.Proofs.Tq
open Go.GX
def byteB (x : Int) : Prop := 0 ≤ x ∧ x ≤ 255
abbrev Two := Int × Int
abbrev Six := Two × Two × Two × Two × Two × Two
abbrev OakT := Int × Six × Six × List (Int × Int × Int) × (Int × Int × Int × Int)
def twoB (p : Two) : Prop := byteB p.1 ∧ byteB p.2
def sixB (x : Six) : Prop := twoB x.1 ∧ twoB x.2.1 ∧ twoB x.2.2.1 ∧ twoB x.2.2.2.1 ∧ twoB x.2.2.2.2.1 ∧ twoB x.2.2.2.2.2
structure ToothOK (x : OakT) : Prop where
  m : byteB x.1
  b : sixB x.2.1
  t : sixB x.2.2.1
  c : ∀ c, c ∈ x.2.2.2.1 → byteB c.1 ∧ byteB c.2.1 ∧ byteB c.2.2
  s : byteB x.2.2.2.2.1 ∧ byteB x.2.2.2.2.2.1 ∧ byteB x.2.2.2.2.2.2.1 ∧ byteB x.2.2.2.2.2.2.2
def f9_wp : Int × Int × Unit → Unit → (Span → Prop) → Prop := fun a _ Q => Q (a.1, a.2.1)
def f9_ct : Ct := ⟨arg2 k3 k3, .unit, k40, f9_wp, false, false⟩
def f22_wp : Blade → Unit → (Blade → Prop) → Prop := fun b _ Q => (b.1.length ≤ 1000000 ∧ b.2.1.length ≤ 1000000 ∧ b.2.2.2.length ≤ 1000000) ∧ Q b
def f22_ct : Ct := ⟨k63, .unit, k63, f22_wp, false, false⟩
def f16_wp : OakT → Unit → (Blade × Saw × Unit → Prop) → Prop := fun x _ Q => ToothOK x ∧ ∀ b s, BladeOK b → SawOK s → Q (b, s, ())
def f16_ct : Ct := ⟨k60, .unit, res2 k63 k65, f16_wp, false, false⟩
def f16_an : Nat → Items := anL [(1000005, [.t 7 k3, .t 8 k3]), (0, [.t 6 k3, .crow3 106 63 5001 40 k40 5002 40 k40 k3 5003 113 k113]), (2, [.t 9 k3, .crow3 106 63 5004 40 k40 5005 40 k40 k3 5006 113 k113])]
def f17_wp : Blade × Saw × Int × Unit → Unit → (Int → Prop) → Prop := fun a _ Q => (BladeOK a.1 ∧ SawOK a.2.1) ∧ Q (min ((sticksF (sureOf a.1) a.2.1 : Nat) : Int) a.2.2.1)
def f17_ct : Ct := ⟨arg3 k63 k65 k3, .unit, k3, f17_wp, false, false⟩
def f5_wp : OakT × Two × Unit → Unit → (Bool → Prop) → Prop := fun a _ Q => (ToothOK a.1 ∧ twoB a.2.1) ∧ Q true
end Go.Proofs.Tq
set_option linter.unusedVariables false
namespace Go.GX
variable [Inhabited BaseD]
open Go.RowKit Go.Shelf Go.Proofs

inductive Tgt where
  | ty (t : TypeId)
  | fs (l : List Field) (off : Nat)

def Tgt.one (P : Program) (n : Nat) : Tgt → Option TypeId
  | .ty t => some t
  | .fs [f] off => cond (Nat.beq f.offset off && Nat.beq (P.cellsOf f.type) n) (some f.type) none
  | .fs _ _ => none

def arrF (P : Program) (e : TypeId) (n : Nat) : List Field := (List.range n).map fun i => ⟨"", e, i * P.cellsOf e, false, "", "", 0⟩

def Kd.rng : (K : Kd) → K.T → Prop
  | .int k, x => (Lit.int k x).wf = true
  | .pair A B, x => A.rng x.1 ∧ B.rng x.2
  | .agg K, x => K.rng x
  | .sl _ K, xs => ∀ x, x ∈ (show List K.T from xs) → K.rng x
  | _, _ => True

def fitK (P : Program) : Kd → Tgt → Bool
  | .pair A B, .fs (f :: r) off => Nat.beq f.offset off && Nat.beq (P.cellsOf f.type) A.n && fitK P A (.ty f.type) && fitK P B (.fs r (off + A.n))
  | .pair _ _, _ => false
  | .unit, _ => false
  | .int k, s => match s.one P 1 with
    | some t => match P.underlying t with
      | some (.int k') => decide (k' = k)
      | _ => false
    | none => false
  | .bool, s => match s.one P 1 with
    | some t => match P.underlying t with
      | some .bool => true
      | _ => false
    | none => false
  | .sl e K, s => match s.one P 1 with
    | some t => match P.underlying t with
      | some (.slice e') => Nat.beq e' e && Nat.beq (P.cellsOf e) K.n && Nat.ble 1 K.n && fitK P K (.ty e)
      | _ => false
    | none => false
  | .agg K, s => match s.one P K.n with
    | some t => match P.underlying t with
      | some (.struct fs) => Nat.beq (P.cellsOf t) K.n && fitK P K (.fs fs.toList 0)
      | some (.array n e) => Nat.beq (P.cellsOf t) K.n && fitK P K (.fs (arrF P e n) 0)
      | _ => false
    | none => false
  | _, _ => false

section
variable {H : Type} {enc : TypeId × Value → H} {P : Program} {W : World} {base : Nat} {spare : Nat → Bool} {held : Bool}

def Reads (enc : TypeId × Value → H) (P : Program) (W : World) (base : Nat) (spare : Nat → Bool) (held : Bool) : Tgt → List Value → Prop
  | .ty t, cs => ∃ fuel x, DataW.trod enc P W base spare held fuel t cs = some x
  | .fs l off, cs => ∀ (i : Nat) (f : Field), l[i]? = some f → ∃ fuel x, DataW.trod enc P W base spare held fuel f.type ((cs.drop f.offset).take (P.cellsOf f.type)) = some x

def Tgt.cut (n : Nat) : Tgt → List Value → List Value
  | .ty _, cs => cs
  | .fs _ off, cs => (cs.drop off).take n

theorem one_reads {n : Nat} {s : Tgt} {t : TypeId} {cs : List Value} (h : s.one P n = some t) (hr : Reads enc P W base spare held s cs) : ∃ fuel x, DataW.trod enc P W base spare held fuel t (s.cut n cs) = some x := by
  cases s with
  | ty t' => cases h; exact hr
  | fs l off =>
    match l, h with
    | [f], h =>
      simp only [Tgt.one] at h
      cases hb : Nat.beq f.offset off && Nat.beq (P.cellsOf f.type) n with
      | false => rw [hb] at h; cases h
      | true =>
        rw [hb] at h; cases h
        rw [Bool.and_eq_true] at hb
        have h1 := Nat.eq_of_beq_eq_true hb.1
        have h2 := Nat.eq_of_beq_eq_true hb.2
        obtain ⟨fuel, x, hx⟩ := hr 0 f rfl
        exact ⟨fuel, x, by rw [h1, h2] at hx; exact hx⟩

theorem cut0 {l : List Field} {n : Nat} {z : List Value} (h : z.length = n) : (Tgt.fs l 0).cut n z = z := by
  show (z.drop 0).take n = z
  rw [List.drop_zero]
  exact List.take_of_length_le (by omega)
theorem cells?_cell {a : Addr} {n : Nat} {cs : List Value} (h : W.cells? base a n = some cs) : ∀ (i : Nat) u, cs[i]? = some u → W.cell? (a.add i) = some u := by
  unfold World.cells? at h
  split at h
  · intro i u hu
    have hl := mapM_some_length h
    have hi : i < cs.length := (List.getElem?_eq_some_iff.1 hu).1
    have hln : cs.length = n := by simpa using hl
    have := mapM_some_get h i i (List.getElem?_range (by omega))
    rw [this, hu]
  · cases h

theorem fit_rng : ∀ (K : Kd) (s : Tgt) (cs : List Value), fitK P K s = true → Reads enc P W base spare held s cs → (∀ l off, s = .fs l off → off + K.n ≤ cs.length) → ∃ y : K.T, (K.sem P).cells (fun _ => False) W y (s.cut K.n cs) ∧ K.rng y := by
  intro K
  induction K with
  | int k =>
    intro s cs h hr hl
    simp only [fitK] at h
    split at h
    · rename_i t ht
      obtain ⟨fuel, x, hx⟩ := one_reads ht hr
      split at h
      · rename_i k' hu
        have hk := of_decide_eq_true h
        subst hk
        obtain ⟨n, hn, _, hwf⟩ := DataW.trod_int hu hx
        exact ⟨n, ⟨_, hn, rfl, rfl⟩, hwf⟩
      · cases h
    · cases h
  | bool =>
    intro s cs h hr hl
    simp only [fitK] at h
    split at h
    · rename_i t ht
      obtain ⟨fuel, x, hx⟩ := one_reads ht hr
      split at h
      · rename_i hu
        obtain ⟨b, hb, _⟩ := DataW.trod_bool hu hx
        exact ⟨b, ⟨_, hb, rfl, rfl⟩, trivial⟩
      · cases h
    · cases h
  | sl e K ih =>
    intro s cs h hr hl
    simp only [fitK] at h
    split at h
    · rename_i t ht
      obtain ⟨fuel, x, hx⟩ := one_reads ht hr
      split at h
      · rename_i e' hu
        simp only [Bool.and_eq_true] at h
        obtain ⟨⟨⟨h1, h2⟩, hpos⟩, h3⟩ := h
        have hpos := Nat.le_of_ble_eq_true hpos
        obtain rfl := Nat.eq_of_beq_eq_true h1
        have hc := Nat.eq_of_beq_eq_true h2
        rcases DataW.trod_slice hu hx with ⟨hcs, _⟩ | ⟨a, len, cap, elems, rest, n, _, hcs, _, hb, hlc, hcap, hlen, hel, _, _⟩
        · exact ⟨([] : List K.T), ⟨_, hcs, rfl, none, 0, rfl, Nat.le_refl _, by unfold maxLen; omega, fun h => absurd rfl h⟩, fun x hx => (by cases hx)⟩
        · have key : ∀ i : Nat, i < len → ∃ y : K.T, ∃ ecs : List Value, W.cells? base (a.add (i * K.n)) K.n = some ecs ∧ (K.sem P).cells (fun _ => False) W y ecs ∧ K.rng y := by
            intro i hi
            have he := hel i hi
            rw [List.getElem?_eq_getElem (by omega)] at he
            obtain ⟨cs', g1, g2⟩ := Option.bind_eq_some_iff.1 he
            rw [hc] at g1
            obtain ⟨y, hy⟩ := ih (.ty e') cs' h3 ⟨_, _, g2⟩ (fun _ _ h => by cases h)
            exact ⟨y, cs', g1, hy⟩
          have all : ∀ k : Nat, k ≤ len → ∃ ys : List K.T, ys.length = k ∧ ∀ (i : Nat) y, ys[i]? = some y → ∃ ecs : List Value, W.cells? base (a.add (i * K.n)) K.n = some ecs ∧ (K.sem P).cells (fun _ => False) W y ecs ∧ K.rng y := by
            intro k
            induction k with
            | zero => intro _; exact ⟨[], rfl, fun i y h => by simp at h⟩
            | succ k ihk =>
              intro hk
              obtain ⟨ys, hyl, hys⟩ := ihk (by omega)
              obtain ⟨y, ecs, g1, g2⟩ := key k (by omega)
              refine ⟨ys ++ [y], by simp [hyl], fun i z hz => ?_⟩
              by_cases hi : i < ys.length
              · rw [List.getElem?_append_left hi] at hz
                exact hys i z hz
              · have hi' : i = ys.length := by
                  have := (List.getElem?_eq_some_iff.1 hz).1
                  simp at this; omega
                subst hi'
                rw [List.getElem?_concat_length] at hz
                cases hz
                rw [hyl]
                exact ⟨ecs, g1, g2⟩
          obtain ⟨ys, hyl, hys⟩ := all len (Nat.le_refl _)
          refine ⟨ys, ⟨_, hcs, rfl, some a, cap, by rw [hyl], by rw [hyl]; exact hlc, hcap, fun hne => ⟨a, rfl, fun h => h, ?_, fun j y hy => ?_⟩⟩, fun y hy => by
            obtain ⟨j, hj, rfl⟩ := List.mem_iff_getElem.1 hy
            obtain ⟨_, _, _, g3⟩ := hys j _ (List.getElem?_eq_getElem hj)
            exact g3⟩
          · obtain ⟨y0, hy0⟩ : ∃ y0, ys[0]? = some y0 := ⟨ys[0]'(List.length_pos_iff.2 hne), List.getElem?_eq_getElem _⟩
            obtain ⟨ecs, g1, g2, _⟩ := hys 0 y0 hy0
            rw [Nat.zero_mul] at g1
            have hn : 0 < ecs.length := by rw [Kd.cells_length P K g2]; exact hpos
            have := World.block_lt_of_cell? W _ (cells?_cell g1 0 (ecs[0]'hn) (List.getElem?_eq_getElem hn))
            simpa [add_block] using this
          · obtain ⟨ecs, g1, g2, _⟩ := hys j y hy
            refine ⟨ecs, g2, fun i u hu => ?_⟩
            have := cells?_cell g1 i u hu
            rwa [addAdd] at this
      · cases h
    · cases h
  | agg K ih =>
    intro s cs h hr hl
    simp only [fitK] at h
    split at h
    · rename_i t ht
      obtain ⟨fuel, x, hx⟩ := one_reads ht hr
      split at h
      · rename_i fs hu
        rw [Bool.and_eq_true] at h
        have hc := Nat.eq_of_beq_eq_true h.1
        obtain ⟨xs, n, _, _, hlen, hxl, hf⟩ := DataW.trod_struct hu hx
        obtain ⟨y, hy⟩ := ih (.fs fs.toList 0) (s.cut K.n cs) h.2 (fun i f hi => by
          have hi' : fs[i]? = some f := by simpa using hi
          have := hf i f hi'
          have hlt : i < xs.length := by rw [hxl]; exact (Array.getElem?_eq_some_iff.1 hi').1
          rw [List.getElem?_eq_getElem hlt] at this
          exact ⟨_, _, this⟩) (fun l off h => by cases h; rw [hlen, hc]; omega)
        refine ⟨y, ?_⟩
        have := cut0 (l := fs.toList) (n := K.n) (z := s.cut K.n cs) (by rw [hlen, hc])
        rw [this] at hy
        exact hy
      · rename_i n e hu
        rw [Bool.and_eq_true] at h
        have hc := Nat.eq_of_beq_eq_true h.1
        obtain ⟨xs, n', _, _, hlen, hxl, hf⟩ := DataW.trod_array hu hx
        obtain ⟨y, hy⟩ := ih (.fs (arrF P e n) 0) (s.cut K.n cs) h.2 (fun i f hi => by
          unfold arrF at hi
          rw [List.getElem?_map] at hi
          obtain ⟨i', hi', rfl⟩ := Option.map_eq_some_iff.1 hi
          have hin : i < n := by
            have := (List.getElem?_eq_some_iff.1 hi').1
            simpa using this
          rw [List.getElem?_range hin] at hi'
          cases hi'
          have := hf i hin
          rw [List.getElem?_eq_getElem (by omega)] at this
          exact ⟨_, _, this⟩) (fun l off h => by cases h; rw [hlen, hc]; omega)
        refine ⟨y, ?_⟩
        have := cut0 (l := arrF P e n) (n := K.n) (z := s.cut K.n cs) (by rw [hlen, hc])
        rw [this] at hy
        exact hy
      · cases h
    · cases h
  | pair A B ihA ihB =>
    intro s cs h hr hl
    match s, h with
    | .fs (f :: r) off, h =>
      simp only [fitK, Bool.and_eq_true] at h
      obtain ⟨⟨⟨h1, h2⟩, h3⟩, h4⟩ := h
      have h1 := Nat.eq_of_beq_eq_true h1
      have h2 := Nat.eq_of_beq_eq_true h2
      have hll := hl _ _ rfl
      simp only [Kd.n] at hll
      obtain ⟨fuel, x, hx⟩ := hr 0 f rfl
      obtain ⟨ya, hya, rya⟩ := ihA (.ty f.type) _ h3 ⟨fuel, x, hx⟩ (fun _ _ h => by cases h)
      obtain ⟨yb, hyb, ryb⟩ := ihB (.fs r (off + A.n)) cs h4 (fun i f' hi => hr (i + 1) f' (by simpa using hi)) (fun l o h => by cases h; omega)
      refine ⟨(ya, yb), ⟨_, _, ?_, hya, hyb⟩, rya, ryb⟩
      simp only [Tgt.cut, h1, h2, Kd.n]
      rw [List.take_add, List.drop_drop]
  | _ =>
    intro s cs h hr hl
    first
      | (simp only [fitK] at h; done)
      | (unfold fitK at h; cases h)
      | cases h
end
end Go.GX
set_option maxRecDepth 100000
set_option linter.unusedVariables false
namespace Go.Proofs.Tq
open Go Go.GX Go.Proofs Go.ChangeShapes Go.WideShapes Go.ChangeAt Go.RowKit
open Go.Proofs.Ytgcgakefjfhnkaa

theorem own11 : ownKnob Try.prog.godebug = none := by kernel_rfl
theorem laidOut11 : laidOutB Try.prog = true := by kernel_rfl
abbrev atW (W : World) : Inhabited BaseD := ⟨⟨W.heap.size⟩⟩
theorem glb11 (W : World) : @GlbOK (atW W) Try.prog (assoc glT) (fun _ => False) W :=
  ⟨Nat.le_refl _, fun g v h => by cases h⟩
theorem okWide_array {P : Program} {w : World} {r : Reach} {base : Nat} {t e : TypeId} {n : Nat} {v : Value} (ht : P.underlying t = some (.array n e)) (h : Value.okWide P w r base t v) : ∃ cs, v = .agg cs := by
  simp only [Value.okWide, ht] at h
  obtain ⟨cs, hv, _⟩ := h
  exact ⟨cs, hv⟩
section
variable {H : Type} {enc : TypeId × Value → H} {W : World} {base b0 : Nat} {spare : Nat → Bool} {held : Bool} {v : Value} {d : DataW H} {p : List MemPlace} [Inhabited BaseD]
theorem arg_agg {K : Kd} {t : TypeId} {fs : Array Field} (hu : Try.prog.underlying t = some (.struct fs)) (hf : fitK Try.prog (.agg K) (.ty t) = true) (hv : Value.okWide Try.prog W .any b0 t v) (h : DataW.Trod enc Try.prog W base spare held t v d p) :
    ∃ x : K.T, ((Kd.agg K).sem Try.prog).val (fun _ => False) W x v ∧ K.rng x := by
  obtain ⟨cs, rfl, _⟩ := okWide_struct hu hv
  obtain ⟨fuel, h⟩ := h
  obtain ⟨x, hx, hr⟩ := fit_rng (.agg K) (.ty t) _ hf ⟨fuel, _, h⟩ (fun _ _ h => by cases h)
  exact ⟨x, ⟨cs.toList, by simp, hx⟩, hr⟩
theorem arg_arr {K : Kd} {t e : TypeId} {n : Nat} (hu : Try.prog.underlying t = some (.array n e)) (hf : fitK Try.prog (.agg K) (.ty t) = true) (hv : Value.okWide Try.prog W .any b0 t v) (h : DataW.Trod enc Try.prog W base spare held t v d p) :
    ∃ x : K.T, ((Kd.agg K).sem Try.prog).val (fun _ => False) W x v ∧ K.rng x := by
  obtain ⟨cs, rfl⟩ := okWide_array hu hv
  obtain ⟨fuel, h⟩ := h
  obtain ⟨x, hx, hr⟩ := fit_rng (.agg K) (.ty t) _ hf ⟨fuel, _, h⟩ (fun _ _ h => by cases h)
  exact ⟨x, ⟨cs.toList, by simp, hx⟩, hr⟩
end
theorem byte_wf {x : Int} (h : (Lit.int .u8 x).wf = true) : byteB x := by
  have h1 : IntKind.u8.min = 0 := rfl
  have h2 : IntKind.u8.max = 255 := rfl
  simp only [Lit.wf, h1, h2, Bool.and_eq_true, decide_eq_true_eq] at h
  exact h
abbrev q57 : Kd := .pair k5 k5
abbrev q60 : Kd := .pair k5 (.pair k58 (.pair k58 (.pair k25 k22)))
theorem uS60 : ∃ fs, Try.prog.underlying 60 = some (.struct fs) := ⟨_, rfl⟩
theorem uA57 : Try.prog.underlying 57 = some (.array 2 5) := by kernel_rfl
theorem fit60 : fitK Try.prog k60 (.ty 60) = true := by kernel_rfl
theorem fit57 : fitK Try.prog k57 (.ty 57) = true := by kernel_rfl
theorem two_rng {p : Two} (h : q57.rng p) : twoB p := ⟨byte_wf h.1, byte_wf h.2⟩
theorem tooth_rng {x : OakT} (h : q60.rng x) : ToothOK x := by
  obtain ⟨h1, ⟨b1, b2, b3, b4, b5, b6⟩, ⟨t1, t2, t3, t4, t5, t6⟩, hc, s1, s2, s3, s4⟩ := h
  exact ⟨byte_wf h1, ⟨two_rng b1, two_rng b2, two_rng b3, two_rng b4, two_rng b5, two_rng b6⟩, ⟨two_rng t1, two_rng t2, two_rng t3, two_rng t4, two_rng t5, two_rng t6⟩,
    fun c h => ⟨byte_wf (hc c h).1, byte_wf (hc c h).2.1, byte_wf (hc c h).2.2⟩, byte_wf s1, byte_wf s2, byte_wf s3, byte_wf s4⟩
theorem belowOf {W W' : World} (h : @Bel (atW W) (fun k => k < W.heap.size) W W') : Below W.heap.size W W' :=
  letI := atW W
  ⟨h.os, h.tape, h.output, h.size, fun k hk => h.block k hk fun _ _ _ _ => hk⟩
section
variable {H : Type} {enc : TypeId × Value → H} {W : World} {base b0 b1 b2 : Nat} {spare : Nat → Bool} {held : Bool} {v0 v1 v2 : Value} {d0 d1 d2 : DataW H} {p0 p1 p2 : List MemPlace}
end
end Go.Proofs.Tq
namespace Go.Proofs.Tq
open Go.GX

def wideS (s : Saw) (w : Int) : Saw := (s.1, w, s.2.2.1, s.2.2.2)
def enB (v : View) (s : Saw) (sticks wide : Int) : Bool := decide (sticks ≤ (sticksF v (wideS s wide) : Int))
def f43_wp : Int → Saw × View × Int × Unit → (Bool → Prop) → Prop := fun w c Q => (ViewOK c.2.1 ∧ SawOK c.1 ∧ 1 ≤ w ∧ w ≤ 300) ∧ ∀ b : Bool, b = enB c.2.1 c.1 c.2.2.1 w → Q b
def f43_ct : Ct := ⟨k3, arg3 (.ptr 65 k65) (.ptr 128 k128) (.ptr 3 k3), .bool, f43_wp, false, false⟩

def wsN (p : Int → Bool) : Nat → Int → Int → Int
  | 0, lo, _ => lo
  | n + 1, lo, hi => if lo < hi then (if p ((lo + hi + 1) / 2) then wsN p n ((lo + hi + 1) / 2) hi else wsN p n lo ((lo + hi + 1) / 2 - 1)) else lo
def f21_wp : Blade × Saw × Int × Unit → Unit → (Int × Int × Unit → Prop) → Prop := fun a _ Q => (BladeOK a.1 ∧ SawOK a.2.1 ∧ 1 ≤ a.2.2.1 ∧ a.2.2.1 ≤ 400) ∧ ∀ r : Int, r = wsN (enB (sureOf a.1) a.2.1 a.2.2.1) 301 0 300 → (r = 0 → Q (0, 7, ())) ∧ (r ≠ 0 → Q (r, 0, ()))
def f21_ct : Ct := ⟨arg3 k63 k65 k3, .unit, res2 k3 k43, f21_wp, false, false⟩
def f21_an : Nat → Items := anL [(1, [.t 12 k3, .t 13 k3])]
def f6_wp : OakT × Two × Unit → Unit → (Bool → Prop) → Prop := fun a _ Q => (ToothOK a.1 ∧ twoB a.2.1) ∧ Q true
def f6_ct : Ct := ⟨arg2 k60 k57, .unit, .bool, f6_wp, false, false⟩
end Go.Proofs.Tq
set_option maxRecDepth 100000
set_option linter.unusedVariables false
namespace Go.Proofs.Tq
open Go Go.GX Go.Proofs Go.ChangeShapes Go.WideShapes Go.ChangeAt Go.RowKit
open Go.Proofs.Ytgcgakefjfhnkaa
section
variable {H : Type} {enc : TypeId × Value → H} {W : World} {base b0 b1 b2 : Nat} {spare : Nat → Bool} {held : Bool} {v0 v1 v2 : Value} {d0 d1 d2 : DataW H} {p0 p1 p2 : List MemPlace}
theorem lawC {f : FuncId} {ct : Ct} (hA : ct = f6_ct) (ok : ∀ [Inhabited BaseD], CallsOK Try.prog (assoc glT) f ct)
    (o0 : Value.okWide Try.prog W .any b0 60 v0) (h0 : DataW.Trod enc Try.prog W base spare held 60 v0 d0 p0) (o1 : Value.okWide Try.prog W .any b1 57 v1) (h1 : DataW.Trod enc Try.prog W base spare held 57 v1 d1 p1) :
    Calls Try.prog f #[v0, v1] W fun e W' => e = .returned (.bool true) ∧ Below W.heap.size W W' := by
  subst hA
  letI := atW W
  obtain ⟨fs, hu⟩ := uS60
  obtain ⟨x0, g0, r0⟩ := arg_agg (K := q60) hu fit60 o0 h0
  obtain ⟨x1, g1, r1⟩ := arg_arr (K := q57) uA57 fit57 o1 h1
  have := ok.calls (fun _ => False) W (x0, x1, ()) () [v0, v1] [] (fun _ h => h.elim) (glb11 W) ⟨v0, [v1], rfl, g0, v1, [], rfl, g1, rfl⟩ rfl (fun r => r = true) ⟨⟨tooth_rng r0, two_rng r1⟩, rfl⟩
  refine this.mono fun e W' h => ?_
  obtain ⟨r, v, he, hv, hb, hr⟩ := h
  have hv : v = .bool r := hv
  subst hr
  exact ⟨by rw [he, hv], belowOf hb⟩
end
end Go.Proofs.Tq
set_option linter.unusedVariables false
set_option maxRecDepth 100000
namespace Go.Proofs.Tq
open Go Go.GX Go.Proofs

def V104 (xs : List Int) (f : Int → (Bool → Prop) → Prop) (Q : Int → Prop) : Prop :=
  List.length xs ≤ (9223372036854775807 : Nat) →
    ∃ (I : Int → Prop),
      ∃ (μ : Int → Nat),
        I (0 : Int) ∧
          ∀ (x : Int),
            I x →
              cnd (decide (x < (↑(List.length xs) : Int)))
                ((0 : Int) ≤ x ∧
                  x < (↑(List.length xs) : Int) ∧
                    Prod.fst (f, ()) (List.getD xs (Int.toNat x) (0 : Int)) fun (r : Bool) ↦
                      cnd r (Q x) (I (IntKind.wrap IntKind.i64 (x + (1 : Int))) ∧ μ (IntKind.wrap IntKind.i64 (x + (1 : Int))) < μ x))
                (Q (-1 : Int))
theorem v104 (xs : List Int) (f : Int → (Bool → Prop) → Prop) (Q : Int → Prop) : V104 xs f Q = vcFunc (S1 [] [] [] []) f104_ct.own f104_ct.fresh idx_an Try.f104 (bodyOf Try.f104) f104_ct.A f104_ct.C f104_ct.R (xs, f, ()) () Q := by kernel_rfl

def V65 (xs : List Int) (f : Int → (Bool → Prop) → Prop) (Q : Bool → Prop) : Prop :=
  f104_wp (xs, f, ()) () fun (r : Int) ↦ Q (decide (r ≥ (0 : Int)))
theorem v65 (xs : List Int) (f : Int → (Bool → Prop) → Prop) (Q : Bool → Prop) : V65 xs f Q = vcFunc (S1 [(104, f104_ct)] [] [] []) f65_ct.own f65_ct.fresh no_an Try.f65 (bodyOf Try.f65) f65_ct.A f65_ct.C f65_ct.R (xs, f, ()) () Q := by kernel_rfl

def V101 (xs : List Int) (Q : List Int → Prop) : Prop :=
  ∀ (b : Bool),
    (b = true → xs = ([] : List Int)) →
      cnd b (Q ([] : List Int)) ((List.length ([] : List Int) + List.length xs) * (8 : Nat) ≤ (140737488355328 : Nat) ∧ Q (([] : List Int) ++ xs))
theorem v101 (xs : List Int) (Q : List Int → Prop) : V101 xs Q = vcFunc (S1 [] [] [] [300]) f101_ct.own f101_ct.fresh no_an Try.f101 (bodyOf Try.f101) f101_ct.A f101_ct.C f101_ct.R xs () Q := by kernel_rfl

def V126 (n : Int) (Q : Bool → Prop) : Prop :=
  Q (n != n)
theorem v126 (n : Int) (Q : Bool → Prop) : V126 n Q = vcFunc (S1 [] [] [] []) f126_ct.own f126_ct.fresh no_an Try.f126 (bodyOf Try.f126) f126_ct.A f126_ct.C f126_ct.R n () Q := by kernel_rfl

def V100 (a : Int) (b : Int) (Q : Int → Prop) : Prop :=
  f126_wp a () fun (r : Bool) ↦
    f126_wp b () fun (r_1 : Bool) ↦
      cnd r (cnd r_1 (Q (0 : Int)) (Q (-1 : Int)))
        (cnd r_1 (Q (1 : Int)) (cnd (decide (a < b)) (Q (-1 : Int)) (cnd (decide (a > b)) (Q (1 : Int)) (Q (0 : Int)))))
theorem v100 (a : Int) (b : Int) (Q : Int → Prop) : V100 a b Q = vcFunc (S1 [(126, f126_ct)] [] [] []) f100_ct.own f100_ct.fresh no_an Try.f100 (bodyOf Try.f100) f100_ct.A f100_ct.C f100_ct.R (a, b, ()) () Q := by kernel_rfl

def V146 (n : Int) (Q : Int → Prop) : Prop :=
  ∃ (I : Int → Int → Prop), cnd (decide (n ≥ (4294967296 : Int))) ((0 : Int) ≤ (32 : Int) ∧ I (Int.fdiv n ((2 : Int) ^ min (Int.toNat (32 : Int)) (IntKind.bits
  IntKind.u64))) (32 : Int)) (I n (0 : Int)) ∧ ∀ (x x_1 : Int), I x x_1 → ∃ (I : Int → Int → Prop), cnd (decide (x ≥ (65536 : Int))) ((0 : Int) ≤ (16 : Int) ∧ I (Int.fdiv x
  ((2 : Int) ^ min (Int.toNat (16 : Int)) (IntKind.bits IntKind.u64))) (IntKind.wrap IntKind.i64 (x_1 + (16 : Int)))) (I x x_1) ∧ ∀ (x x_2 : Int), I x x_2 → ∃ (I : Int →
  Int → Prop), cnd (decide (x ≥ (256 : Int))) ((0 : Int) ≤ (8 : Int) ∧ I (Int.fdiv x ((2 : Int) ^ min (Int.toNat (8 : Int)) (IntKind.bits IntKind.u64))) (IntKind.wrap
  IntKind.i64 (x_2 + (8 : Int)))) (I x x_2) ∧ ∀ (x x_3 : Int), I x x_3 → (0 : Int) ≤ IntKind.wrap IntKind.u8 x ∧ IntKind.wrap IntKind.u8 x < (↑(ByteArray.size (ByteArray.mk (List.toArray (List.append (List.append ((0 : UInt8) :: (1 : UInt8) :: (2 : UInt8) :: (2 : UInt8) :: (3 : UInt8) :: (3 : UInt8) :: (3 : UInt8) :: (3 : UInt8) :: (4 :
  UInt8) :: (4 : UInt8) :: (4 : UInt8) :: (4 : UInt8) :: (4 : UInt8) :: (4 : UInt8) :: (4 : UInt8) :: (4 : UInt8) :: (5 : UInt8) :: (5 : UInt8) :: (5 : UInt8) :: (5 :
  UInt8) :: (5 : UInt8) :: (5 : UInt8) :: (5 : UInt8) :: (5 : UInt8) :: (5 : UInt8) :: (5 : UInt8) :: (5 : UInt8) :: (5 : UInt8) :: (5 : UInt8) :: (5 : UInt8) :: (5 :
  UInt8) :: (5 : UInt8) :: (6 : UInt8) :: (6 : UInt8) :: (6 : UInt8) :: (6 : UInt8) :: (6 : UInt8) :: (6 : UInt8) :: (6 : UInt8) :: (6 : UInt8) :: (6 : UInt8) :: (6 :
  UInt8) :: (6 : UInt8) :: (6 : UInt8) :: (6 : UInt8) :: (6 : UInt8) :: (6 : UInt8) :: (6 : UInt8) :: (6 : UInt8) :: (6 : UInt8) :: (6 : UInt8) :: (6 : UInt8) :: (6 :
  UInt8) :: (6 : UInt8) :: (6 : UInt8) :: (6 : UInt8) :: (6 : UInt8) :: (6 : UInt8) :: (6 : UInt8) :: (6 : UInt8) :: (6 : UInt8) :: (6 : UInt8) :: (6 : UInt8) :: (6 :
  UInt8) :: ([] : List UInt8)) ((7 : UInt8) :: (7 : UInt8) :: (7 : UInt8) :: (7 : UInt8) :: (7 : UInt8) :: (7 : UInt8) :: (7 : UInt8) :: (7 : UInt8) :: (7 : UInt8) :: (7 :
  UInt8) :: (7 : UInt8) :: (7 : UInt8) :: (7 : UInt8) :: (7 : UInt8) :: (7 : UInt8) :: (7 : UInt8) :: (7 : UInt8) :: (7 : UInt8) :: (7 : UInt8) :: (7 : UInt8) :: (7 :
  UInt8) :: (7 : UInt8) :: (7 : UInt8) :: (7 : UInt8) :: (7 : UInt8) :: (7 : UInt8) :: (7 : UInt8) :: (7 : UInt8) :: (7 : UInt8) :: (7 : UInt8) :: (7 : UInt8) :: (7 :
  UInt8) :: (7 : UInt8) :: (7 : UInt8) :: (7 : UInt8) :: (7 : UInt8) :: (7 : UInt8) :: (7 : UInt8) :: (7 : UInt8) :: (7 : UInt8) :: (7 : UInt8) :: (7 : UInt8) :: (7 :
  UInt8) :: (7 : UInt8) :: (7 : UInt8) :: (7 : UInt8) :: (7 : UInt8) :: (7 : UInt8) :: (7 : UInt8) :: (7 : UInt8) :: (7 : UInt8) :: (7 : UInt8) :: (7 : UInt8) :: (7 :
  UInt8) :: (7 : UInt8) :: (7 : UInt8) :: (7 : UInt8) :: (7 : UInt8) :: (7 : UInt8) :: (7 : UInt8) :: (7 : UInt8) :: (7 : UInt8) :: (7 : UInt8) :: (7 : UInt8) :: ([] : List
  UInt8))) (List.append ((8 : UInt8) :: (8 : UInt8) :: (8 : UInt8) :: (8 : UInt8) :: (8 : UInt8) :: (8 : UInt8) :: (8 : UInt8) :: (8 : UInt8) :: (8 : UInt8) :: (8 : UInt8)
  :: (8 : UInt8) :: (8 : UInt8) :: (8 : UInt8) :: (8 : UInt8) :: (8 : UInt8) :: (8 : UInt8) :: (8 : UInt8) :: (8 : UInt8) :: (8 : UInt8) :: (8 : UInt8) :: (8 : UInt8) :: (8
  : UInt8) :: (8 : UInt8) :: (8 : UInt8) :: (8 : UInt8) :: (8 : UInt8) :: (8 : UInt8) :: (8 : UInt8) :: (8 : UInt8) :: (8 : UInt8) :: (8 : UInt8) :: (8 : UInt8) :: (8 :
  UInt8) :: (8 : UInt8) :: (8 : UInt8) :: (8 : UInt8) :: (8 : UInt8) :: (8 : UInt8) :: (8 : UInt8) :: (8 : UInt8) :: (8 : UInt8) :: (8 : UInt8) :: (8 : UInt8) :: (8 :
  UInt8) :: (8 : UInt8) :: (8 : UInt8) :: (8 : UInt8) :: (8 : UInt8) :: (8 : UInt8) :: (8 : UInt8) :: (8 : UInt8) :: (8 : UInt8) :: (8 : UInt8) :: (8 : UInt8) :: (8 :
  UInt8) :: (8 : UInt8) :: (8 : UInt8) :: (8 : UInt8) :: (8 : UInt8) :: (8 : UInt8) :: (8 : UInt8) :: (8 : UInt8) :: (8 : UInt8) :: (8 : UInt8) :: ([] : List UInt8)) ((8 :
  UInt8) :: (8 : UInt8) :: (8 : UInt8) :: (8 : UInt8) :: (8 : UInt8) :: (8 : UInt8) :: (8 : UInt8) :: (8 : UInt8) :: (8 : UInt8) :: (8 : UInt8) :: (8 : UInt8) :: (8 :
  UInt8) :: (8 : UInt8) :: (8 : UInt8) :: (8 : UInt8) :: (8 : UInt8) :: (8 : UInt8) :: (8 : UInt8) :: (8 : UInt8) :: (8 : UInt8) :: (8 : UInt8) :: (8 : UInt8) :: (8 :
  UInt8) :: (8 : UInt8) :: (8 : UInt8) :: (8 : UInt8) :: (8 : UInt8) :: (8 : UInt8) :: (8 : UInt8) :: (8 : UInt8) :: (8 : UInt8) :: (8 : UInt8) :: (8 : UInt8) :: (8 :
  UInt8) :: (8 : UInt8) :: (8 : UInt8) :: (8 : UInt8) :: (8 : UInt8) :: (8 : UInt8) :: (8 : UInt8) :: (8 : UInt8) :: (8 : UInt8) :: (8 : UInt8) :: (8 : UInt8) :: (8 :
  UInt8) :: (8 : UInt8) :: (8 : UInt8) :: (8 : UInt8) :: (8 : UInt8) :: (8 : UInt8) :: (8 : UInt8) :: (8 : UInt8) :: (8 : UInt8) :: (8 : UInt8) :: (8 : UInt8) :: (8 :
  UInt8) :: (8 : UInt8) :: (8 : UInt8) :: (8 : UInt8) :: (8 : UInt8) :: (8 : UInt8) :: (8 : UInt8) :: (8 : UInt8) :: (8 : UInt8) :: ([] : List UInt8))))))) : Int) ∧ Q
  (IntKind.wrap IntKind.i64 (x_3 + IntKind.wrap IntKind.i64 (↑(UInt8.toNat (Array.getD (ByteArray.data (ByteArray.mk (List.toArray (List.append (List.append ((0 : UInt8) :: (1 :
  UInt8) :: (2 : UInt8) :: (2 : UInt8) :: (3 : UInt8) :: (3 : UInt8) :: (3 : UInt8) :: (3 : UInt8) :: (4 : UInt8) :: (4 : UInt8) :: (4 : UInt8) :: (4 : UInt8) :: (4 :
  UInt8) :: (4 : UInt8) :: (4 : UInt8) :: (4 : UInt8) :: (5 : UInt8) :: (5 : UInt8) :: (5 : UInt8) :: (5 : UInt8) :: (5 : UInt8) :: (5 : UInt8) :: (5 : UInt8) :: (5 :
  UInt8) :: (5 : UInt8) :: (5 : UInt8) :: (5 : UInt8) :: (5 : UInt8) :: (5 : UInt8) :: (5 : UInt8) :: (5 : UInt8) :: (5 : UInt8) :: (6 : UInt8) :: (6 : UInt8) :: (6 :
  UInt8) :: (6 : UInt8) :: (6 : UInt8) :: (6 : UInt8) :: (6 : UInt8) :: (6 : UInt8) :: (6 : UInt8) :: (6 : UInt8) :: (6 : UInt8) :: (6 : UInt8) :: (6 : UInt8) :: (6 :
  UInt8) :: (6 : UInt8) :: (6 : UInt8) :: (6 : UInt8) :: (6 : UInt8) :: (6 : UInt8) :: (6 : UInt8) :: (6 : UInt8) :: (6 : UInt8) :: (6 : UInt8) :: (6 : UInt8) :: (6 :
  UInt8) :: (6 : UInt8) :: (6 : UInt8) :: (6 : UInt8) :: (6 : UInt8) :: (6 : UInt8) :: (6 : UInt8) :: (6 : UInt8) :: ([] : List UInt8)) ((7 : UInt8) :: (7 : UInt8) :: (7 :
  UInt8) :: (7 : UInt8) :: (7 : UInt8) :: (7 : UInt8) :: (7 : UInt8) :: (7 : UInt8) :: (7 : UInt8) :: (7 : UInt8) :: (7 : UInt8) :: (7 : UInt8) :: (7 : UInt8) :: (7 :
  UInt8) :: (7 : UInt8) :: (7 : UInt8) :: (7 : UInt8) :: (7 : UInt8) :: (7 : UInt8) :: (7 : UInt8) :: (7 : UInt8) :: (7 : UInt8) :: (7 : UInt8) :: (7 : UInt8) :: (7 :
  UInt8) :: (7 : UInt8) :: (7 : UInt8) :: (7 : UInt8) :: (7 : UInt8) :: (7 : UInt8) :: (7 : UInt8) :: (7 : UInt8) :: (7 : UInt8) :: (7 : UInt8) :: (7 : UInt8) :: (7 :
  UInt8) :: (7 : UInt8) :: (7 : UInt8) :: (7 : UInt8) :: (7 : UInt8) :: (7 : UInt8) :: (7 : UInt8) :: (7 : UInt8) :: (7 : UInt8) :: (7 : UInt8) :: (7 : UInt8) :: (7 :
  UInt8) :: (7 : UInt8) :: (7 : UInt8) :: (7 : UInt8) :: (7 : UInt8) :: (7 : UInt8) :: (7 : UInt8) :: (7 : UInt8) :: (7 : UInt8) :: (7 : UInt8) :: (7 : UInt8) :: (7 :
  UInt8) :: (7 : UInt8) :: (7 : UInt8) :: (7 : UInt8) :: (7 : UInt8) :: (7 : UInt8) :: (7 : UInt8) :: ([] : List UInt8))) (List.append ((8 : UInt8) :: (8 : UInt8) :: (8 :
  UInt8) :: (8 : UInt8) :: (8 : UInt8) :: (8 : UInt8) :: (8 : UInt8) :: (8 : UInt8) :: (8 : UInt8) :: (8 : UInt8) :: (8 : UInt8) :: (8 : UInt8) :: (8 : UInt8) :: (8 :
  UInt8) :: (8 : UInt8) :: (8 : UInt8) :: (8 : UInt8) :: (8 : UInt8) :: (8 : UInt8) :: (8 : UInt8) :: (8 : UInt8) :: (8 : UInt8) :: (8 : UInt8) :: (8 : UInt8) :: (8 :
  UInt8) :: (8 : UInt8) :: (8 : UInt8) :: (8 : UInt8) :: (8 : UInt8) :: (8 : UInt8) :: (8 : UInt8) :: (8 : UInt8) :: (8 : UInt8) :: (8 : UInt8) :: (8 : UInt8) :: (8 :
  UInt8) :: (8 : UInt8) :: (8 : UInt8) :: (8 : UInt8) :: (8 : UInt8) :: (8 : UInt8) :: (8 : UInt8) :: (8 : UInt8) :: (8 : UInt8) :: (8 : UInt8) :: (8 : UInt8) :: (8 :
  UInt8) :: (8 : UInt8) :: (8 : UInt8) :: (8 : UInt8) :: (8 : UInt8) :: (8 : UInt8) :: (8 : UInt8) :: (8 : UInt8) :: (8 : UInt8) :: (8 : UInt8) :: (8 : UInt8) :: (8 :
  UInt8) :: (8 : UInt8) :: (8 : UInt8) :: (8 : UInt8) :: (8 : UInt8) :: (8 : UInt8) :: (8 : UInt8) :: ([] : List UInt8)) ((8 : UInt8) :: (8 : UInt8) :: (8 : UInt8) :: (8 :
  UInt8) :: (8 : UInt8) :: (8 : UInt8) :: (8 : UInt8) :: (8 : UInt8) :: (8 : UInt8) :: (8 : UInt8) :: (8 : UInt8) :: (8 : UInt8) :: (8 : UInt8) :: (8 : UInt8) :: (8 :
  UInt8) :: (8 : UInt8) :: (8 : UInt8) :: (8 : UInt8) :: (8 : UInt8) :: (8 : UInt8) :: (8 : UInt8) :: (8 : UInt8) :: (8 : UInt8) :: (8 : UInt8) :: (8 : UInt8) :: (8 :
  UInt8) :: (8 : UInt8) :: (8 : UInt8) :: (8 : UInt8) :: (8 : UInt8) :: (8 : UInt8) :: (8 : UInt8) :: (8 : UInt8) :: (8 : UInt8) :: (8 : UInt8) :: (8 : UInt8) :: (8 :
  UInt8) :: (8 : UInt8) :: (8 : UInt8) :: (8 : UInt8) :: (8 : UInt8) :: (8 : UInt8) :: (8 : UInt8) :: (8 : UInt8) :: (8 : UInt8) :: (8 : UInt8) :: (8 : UInt8) :: (8 :
  UInt8) :: (8 : UInt8) :: (8 : UInt8) :: (8 : UInt8) :: (8 : UInt8) :: (8 : UInt8) :: (8 : UInt8) :: (8 : UInt8) :: (8 : UInt8) :: (8 : UInt8) :: (8 : UInt8) :: (8 :
  UInt8) :: (8 : UInt8) :: (8 : UInt8) :: (8 : UInt8) :: (8 : UInt8) :: (8 : UInt8) :: ([] : List UInt8))))))) (Int.toNat (IntKind.wrap IntKind.u8 x)) (0 : UInt8))) :
  Int)))
theorem v146 (n : Int) (Q : Int → Prop) : V146 n Q = vcFunc (S1 [] [] [] []) f146_ct.own f146_ct.fresh f146_an Try.f146 (bodyOf Try.f146) f146_ct.A f146_ct.C f146_ct.R n () Q := by kernel_rfl

def V114 (n : Int) (Q : Int → Prop) : Prop :=
  f146_wp n () fun (r : Int) ↦ Q r
theorem v114 (n : Int) (Q : Int → Prop) : V114 n Q = vcFunc (S1 [(146, f146_ct)] [] [] []) f114_ct.own f114_ct.fresh no_an Try.f114 (bodyOf Try.f114) f114_ct.A f114_ct.C f114_ct.R n () Q := by kernel_rfl

def V148 (ys : List Int) (a : Int) (b : Int) (f : Int × Int → (Int → Prop) → Prop) (Q : Unit → List Int → Prop) : Prop :=
  ∃ (I : Int → List Int → Prop),
    ∃ (μ : Int → List Int → Nat),
      I (IntKind.wrap IntKind.i64 (a + (1 : Int))) ys ∧
        ∀ (x : Int) (x_1 : List Int),
          I x x_1 →
            cnd (decide (x < b))
              (∃ (I_1 : Int → List Int → Prop),
                ∃ (μ_1 : Int → List Int → Nat),
                  I_1 x x_1 ∧
                    ∀ (x_2 : Int) (x_3 : List Int),
                      I_1 x_2 x_3 →
                        cnd (decide (x_2 > a))
                          ((0 : Int) ≤ x_2 ∧
                            x_2 < (↑(List.length x_3) : Int) ∧
                              (0 : Int) ≤ IntKind.wrap IntKind.i64 (x_2 - (1 : Int)) ∧
                                IntKind.wrap IntKind.i64 (x_2 - (1 : Int)) < (↑(List.length x_3) : Int) ∧
                                  ∃ (r : Int),
                                    (Prod.fst (f, ())
                                        (List.getD x_3 (Int.toNat x_2) (0 : Int),
                                          List.getD x_3 (Int.toNat (IntKind.wrap IntKind.i64 (x_2 - (1 : Int)))) (0 : Int))
                                        fun (r' : Int) ↦ r' = r) ∧
                                      cnd (decide (r < (0 : Int)))
                                        ((0 : Int) ≤ IntKind.wrap IntKind.i64 (x_2 - (1 : Int)) ∧
                                          IntKind.wrap IntKind.i64 (x_2 - (1 : Int)) < (↑(List.length x_3) : Int) ∧
                                            (0 : Int) ≤ x_2 ∧
                                              x_2 < (↑(List.length x_3) : Int) ∧
                                                (0 : Int) ≤ x_2 ∧
                                                  x_2 < (↑(List.length x_3) : Int) ∧
                                                    (0 : Int) ≤ IntKind.wrap IntKind.i64 (x_2 - (1 : Int)) ∧
                                                      IntKind.wrap IntKind.i64 (x_2 - (1 : Int)) <
                                                          (↑(List.length
                                                                (List.set x_3 (Int.toNat x_2)
                                                                  (List.getD x_3 (Int.toNat (IntKind.wrap IntKind.i64 (x_2 - (1 : Int)))) (0 : Int)))) :
                                                            Int) ∧
                                                        I_1 (IntKind.wrap IntKind.i64 (x_2 - (1 : Int)))
                                                            (List.set
                                                              (List.set x_3 (Int.toNat x_2)
                                                                (List.getD x_3 (Int.toNat (IntKind.wrap IntKind.i64 (x_2 - (1 : Int)))) (0 : Int)))
                                                              (Int.toNat (IntKind.wrap IntKind.i64 (x_2 - (1 : Int))))
                                                              (List.getD x_3 (Int.toNat x_2) (0 : Int))) ∧
                                                          μ_1 (IntKind.wrap IntKind.i64 (x_2 - (1 : Int)))
                                                              (List.set
                                                                (List.set x_3 (Int.toNat x_2)
                                                                  (List.getD x_3 (Int.toNat (IntKind.wrap IntKind.i64 (x_2 - (1 : Int)))) (0 : Int)))
                                                                (Int.toNat (IntKind.wrap IntKind.i64 (x_2 - (1 : Int))))
                                                                (List.getD x_3 (Int.toNat x_2) (0 : Int))) <
                                                            μ_1 x_2 x_3)
                                        (I (IntKind.wrap IntKind.i64 (x + (1 : Int))) x_3 ∧ μ (IntKind.wrap IntKind.i64 (x + (1 : Int))) x_3 < μ x x_1))
                          (I (IntKind.wrap IntKind.i64 (x + (1 : Int))) x_3 ∧ μ (IntKind.wrap IntKind.i64 (x + (1 : Int))) x_3 < μ x x_1))
              (Q () x_1)
theorem v148 (ys : List Int) (a : Int) (b : Int) (f : Int × Int → (Int → Prop) → Prop) (Q : Unit → List Int → Prop) : V148 ys a b f Q = vcFuncW (S1 [] [] [] []) ins3_an Try.f148 (bodyOf Try.f148) f148_ct ys (a, b, f, ()) () Q := by kernel_rfl

def V125 (ys : List Int) (n : Int) (f : Int × Int → (Int → Prop) → Prop) (Q : Unit → List Int → Prop) : Prop :=
  ∃ (I : Int → Int → List Int → Prop),
    ∃ (μ : Int → Int → List Int → Nat),
      I (0 : Int) (20 : Int) ys ∧
        ∀ (x x_1 : Int) (x_2 : List Int),
          I x x_1 x_2 →
            cnd (decide (x_1 ≤ n))
              (f148_wp x_2 (x, x_1, f, ()) () fun (r : Unit) (zs : List Int) ↦
                I x_1 (IntKind.wrap IntKind.i64 (x_1 + (20 : Int))) zs ∧ μ x_1 (IntKind.wrap IntKind.i64 (x_1 + (20 : Int))) zs < μ x x_1 x_2)
              (f148_wp x_2 (x, n, f, ()) () fun (r : Unit) (zs : List Int) ↦
                ∃ (I : Int → Prop),
                  ∃ (μ : Int → Nat), I (20 : Int) ∧ ∀ (x : Int), I x → cnd (decide (x < n)) (∃ (I : Prop), ∃ (μ : Nat), I ∧ (I → False)) (Q () zs))
theorem v125 (ys : List Int) (n : Int) (f : Int × Int → (Int → Prop) → Prop) (Q : Unit → List Int → Prop) : V125 ys n f Q = vcFuncW (S1 [] [(148, f148_ct)] [] []) f125_an Try.f125 (bodyOf Try.f125) f125_ct ys (n, f, ()) () Q := by kernel_rfl

def V98 (ys : List Int) (f : Int × Int → (Int → Prop) → Prop) (Q : Unit → List Int → Prop) : Prop :=
  List.length ys ≤ (9223372036854775807 : Nat) → f125_wp ys ((↑(List.length ys) : Int), f, ()) () fun (r : Unit) (zs : List Int) ↦ Q () zs
theorem v98 (ys : List Int) (f : Int × Int → (Int → Prop) → Prop) (Q : Unit → List Int → Prop) : V98 ys f Q = vcFuncW (S1 [] [(125, f125_ct)] [] []) no_an Try.f98 (bodyOf Try.f98) f98_ct ys (f, ()) () Q := by kernel_rfl

def V127 (ys : List Int) (a : Int) (b : Int) (l : Int) (f : Int × Int → (Int → Prop) → Prop) (Q : Unit → List Int → Prop) : Prop :=
  ∃ (I : Int → Int → Int → Prop),
    ∃ (μ : Int → Int → Int → Nat),
      I a b l ∧
        ∀ (x x_1 x_2 : Int),
          I x x_1 x_2 →
            cnd (decide (IntKind.wrap IntKind.i64 (x_1 - x) ≤ (12 : Int))) (f148_wp ys (x, x_1, f, ()) () fun (r : Unit) (zs : List Int) ↦ Q () zs)
              (cnd (x_2 == (0 : Int)) False False)
theorem v127 (ys : List Int) (a : Int) (b : Int) (l : Int) (f : Int × Int → (Int → Prop) → Prop) (Q : Unit → List Int → Prop) : V127 ys a b l f Q = vcFuncW (S1 [] [(148, f148_ct)] [] []) f127_an Try.f127 (bodyOf Try.f127) f127_ct ys (a, b, l, f, ()) () Q := by kernel_rfl

def V102 (ys : List Int) (f : Int × Int → (Int → Prop) → Prop) (Q : Unit → List Int → Prop) : Prop :=
  List.length ys ≤ (9223372036854775807 : Nat) →
    f114_wp (IntKind.wrap IntKind.u64 (↑(List.length ys) : Int)) () fun (r : Int) ↦
      f127_wp ys ((0 : Int), (↑(List.length ys) : Int), r, f, ()) () fun (r : Unit) (zs : List Int) ↦ Q () zs
theorem v102 (ys : List Int) (f : Int × Int → (Int → Prop) → Prop) (Q : Unit → List Int → Prop) : V102 ys f Q = vcFuncW (S1 [(114, f114_ct)] [(127, f127_ct)] [] []) no_an Try.f102 (bodyOf Try.f102) f102_ct ys (f, ()) () Q := by kernel_rfl

def V67 (n : Int) (lo : Int) (hi : Int) (Q : Bool → Prop) : Prop :=
  cnd (decide (n < lo)) (Q true) (Q (decide (n > hi)))
theorem v67 (n : Int) (lo : Int) (hi : Int) (Q : Bool → Prop) : V67 n lo hi Q = vcFunc (S1 [] [] [] []) f67_ct.own f67_ct.fresh no_an Try.f67 (bodyOf Try.f67) f67_ct.A f67_ct.C f67_ct.R n (lo, hi, ()) Q := by kernel_rfl

def V37 (lo : Int) (hi : Int) (l : List Int) (Q : Bool → Prop) : Prop :=
  f65_wp (l, fun (x : Int) (Q : Bool → Prop) ↦ f67_wp x (lo, hi, ()) fun (r : Bool) ↦ Q r, ()) () fun (r : Bool) ↦ Q !r
theorem v37 (lo : Int) (hi : Int) (l : List Int) (Q : Bool → Prop) : V37 lo hi l Q = vcFunc (S1 [(65, f65_ct), (67, f67_ct)] [] [] []) f37_ct.own f37_ct.fresh no_an Try.f37 (bodyOf Try.f37) f37_ct.A f37_ct.C f37_ct.R (lo, hi, l, ()) () Q := by kernel_rfl

def V60 (c : Int × Int × Int) (Q : Bool → Prop) : Prop :=
  f37_wp ((0 : Int), (3 : Int), Prod.fst c :: ([] : List Int), ()) () fun (r : Bool) ↦
    cnd (!r) (Q true)
      (f37_wp ((1 : Int), (12 : Int), Prod.fst (Prod.snd c) :: ([] : List Int), ()) () fun (r : Bool) ↦
        cnd (!r) (Q true) (f37_wp ((1 : Int), (1000 : Int), Prod.snd (Prod.snd c) :: ([] : List Int), ()) () fun (r : Bool) ↦ Q !r))
theorem v60 (c : Int × Int × Int) (Q : Bool → Prop) : V60 c Q = vcFunc (S1 [(37, f37_ct)] [] [] []) f60_ct.own f60_ct.fresh no_an Try.f60 (bodyOf Try.f60) f60_ct.A f60_ct.C f60_ct.R c () Q := by kernel_rfl

def V96 (xs : List (Int × Int × Int)) (f : Int × Int × Int → (Bool → Prop) → Prop) (Q : Int → Prop) : Prop :=
  List.length xs ≤ (9223372036854775807 : Nat) →
    ∃ (I : Int → Prop),
      ∃ (μ : Int → Nat),
        I (0 : Int) ∧
          ∀ (x : Int),
            I x →
              cnd (decide (x < (↑(List.length xs) : Int)))
                ((0 : Int) ≤ x ∧
                  x < (↑(List.length xs) : Int) ∧
                    Prod.fst (f, ())
                      (Prod.fst (List.getD xs (Int.toNat x) ((0 : Int), (0 : Int), (0 : Int))),
                        Prod.fst (Prod.snd (List.getD xs (Int.toNat x) ((0 : Int), (0 : Int), (0 : Int)))),
                        Prod.snd (Prod.snd (List.getD xs (Int.toNat x) ((0 : Int), (0 : Int), (0 : Int)))))
                      fun (r : Bool) ↦ cnd r (Q x) (I (IntKind.wrap IntKind.i64 (x + (1 : Int))) ∧ μ (IntKind.wrap IntKind.i64 (x + (1 : Int))) < μ x))
                (Q (-1 : Int))
theorem v96 (xs : List (Int × Int × Int)) (f : Int × Int × Int → (Bool → Prop) → Prop) (Q : Int → Prop) : V96 xs f Q = vcFunc (S1 [] [] [] []) f96_ct.own f96_ct.fresh idx_an Try.f96 (bodyOf Try.f96) f96_ct.A f96_ct.C f96_ct.R (xs, f, ()) () Q := by kernel_rfl

def V61 (xs : List (Int × Int × Int)) (f : Int × Int × Int → (Bool → Prop) → Prop) (Q : Bool → Prop) : Prop :=
  f96_wp (xs, f, ()) () fun (r : Int) ↦ Q (decide (r ≥ (0 : Int)))
theorem v61 (xs : List (Int × Int × Int)) (f : Int × Int × Int → (Bool → Prop) → Prop) (Q : Bool → Prop) : V61 xs f Q = vcFunc (S1 [(96, f96_ct)] [] [] []) f61_ct.own f61_ct.fresh no_an Try.f61 (bodyOf Try.f61) f61_ct.A f61_ct.C f61_ct.R (xs, f, ()) () Q := by kernel_rfl

def V62 (s : Int × Int) (Q : Int → Prop) : Prop :=
  Q (IntKind.wrap IntKind.i64 (IntKind.wrap IntKind.i64 (IntKind.wrap IntKind.i64 (Prod.fst s * (12 : Int)) + Prod.snd s) - (1 : Int)))
theorem v62 (s : Int × Int) (Q : Int → Prop) : V62 s Q = vcFunc (S1 [] [] [] []) f62_ct.own f62_ct.fresh no_an Try.f62 (bodyOf Try.f62) f62_ct.A f62_ct.C f62_ct.R s () Q := by kernel_rfl

def V29 (l : List (Int × Int × Int)) (f : Int × Int × Int) (Q : Int → Prop) : Prop :=
  List.length l ≤ (9223372036854775807 : Nat) →
    cnd (decide ((↑(List.length l) : Int) > (24 : Int))) (Q (5 : Int))
      (f61_wp (l, fun (x : Int × Int × Int) (Q : Bool → Prop) ↦ f60_wp x () fun (r : Bool) ↦ Q r, ()) () fun (r : Bool) ↦
        cnd r (Q (2 : Int))
          (List.length l ≤ (9223372036854775807 : Nat) →
            ∃ (I : Int → Int → Prop),
              ∃ (μ : Int → Int → Nat),
                I (0 : Int) (0 : Int) ∧
                  ∀ (x x_1 : Int),
                    I x x_1 →
                      cnd (decide (x < (↑(List.length l) : Int)))
                        ((0 : Int) ≤ x ∧
                          x < (↑(List.length l) : Int) ∧
                            f62_wp
                              (Prod.fst (List.getD l (Int.toNat x) ((0 : Int), (0 : Int), (0 : Int))),
                                Prod.fst (Prod.snd (List.getD l (Int.toNat x) ((0 : Int), (0 : Int), (0 : Int)))))
                              () fun (r : Int) ↦
                              (0 : Int) ≤ r ∧
                                cnd
                                  (IntKind.wrap IntKind.u64
                                      (↑(BitVec.toNat
                                            (BitVec.ofInt (IntKind.bits IntKind.u64)
                                                (Int.fdiv x_1 ((2 : Int) ^ min (Int.toNat r) (IntKind.bits IntKind.u64))) &&&
                                              BitVec.ofInt (IntKind.bits IntKind.u64) (1 : Int))) :
                                        Int) ==
                                    (1 : Int))
                                  (Q (6 : Int))
                                  ((0 : Int) ≤ r ∧
                                    I (IntKind.wrap IntKind.i64 (x + (1 : Int)))
                                        (IntKind.wrap IntKind.u64
                                          (↑(BitVec.toNat
                                                (BitVec.ofInt (IntKind.bits IntKind.u64) x_1 |||
                                                  BitVec.ofInt (IntKind.bits IntKind.u64)
                                                    (IntKind.wrap IntKind.u64
                                                      ((1 : Int) * (2 : Int) ^ min (Int.toNat r) (IntKind.bits IntKind.u64))))) :
                                            Int)) ∧
                                      μ (IntKind.wrap IntKind.i64 (x + (1 : Int)))
                                          (IntKind.wrap IntKind.u64
                                            (↑(BitVec.toNat
                                                  (BitVec.ofInt (IntKind.bits IntKind.u64) x_1 |||
                                                    BitVec.ofInt (IntKind.bits IntKind.u64)
                                                      (IntKind.wrap IntKind.u64
                                                        ((1 : Int) * (2 : Int) ^ min (Int.toNat r) (IntKind.bits IntKind.u64))))) :
                                              Int)) <
                                        μ x x_1))
                        (∃ (I : Bool → Prop),
                          (f37_wp ((2 : Int), (12 : Int), Prod.fst f :: ([] : List Int), ()) () fun (r : Bool) ↦
                              cnd (!r) (I true)
                                (f37_wp ((0 : Int), (100 : Int), Prod.fst (Prod.snd f) :: ([] : List Int), ()) () fun (r : Bool) ↦
                                  cnd (!r) (I true)
                                    (f37_wp ((0 : Int), (1000 : Int), Prod.snd (Prod.snd f) :: ([] : List Int), ()) () fun (r : Bool) ↦ I !r))) ∧
                            ∀ (x : Bool), I x → cnd x (Q (3 : Int)) (Q (0 : Int)))))
theorem v29 (l : List (Int × Int × Int)) (f : Int × Int × Int) (Q : Int → Prop) : V29 l f Q = vcFunc (S1 [(37, f37_ct), (60, f60_ct), (61, f61_ct), (62, f62_ct)] [] [] []) f29_ct.own f29_ct.fresh f29_an Try.f29 (bodyOf Try.f29) f29_ct.A f29_ct.C f29_ct.R (l, f, ()) () Q := by kernel_rfl

def V99 (ab : Int × Int) (l : List (Int × Int × Int)) (Q : Int → Prop) : Prop :=
  (0 : Int) ≤ Prod.fst ab ∧
    Prod.fst ab < (↑(List.length l) : Int) ∧
      (0 : Int) ≤ Prod.snd ab ∧
        Prod.snd ab < (↑(List.length l) : Int) ∧
          ∃ (r : Int),
            (f100_wp
                (Prod.snd (Prod.snd (List.getD l (Int.toNat (Prod.fst ab)) ((0 : Int), (0 : Int), (0 : Int)))),
                  Prod.snd (Prod.snd (List.getD l (Int.toNat (Prod.snd ab)) ((0 : Int), (0 : Int), (0 : Int)))), ())
                () fun (r' : Int) ↦ r' = r) ∧
              Q r
theorem v99 (ab : Int × Int) (l : List (Int × Int × Int)) (Q : Int → Prop) : V99 ab l Q = vcFunc (S1 [(100, f100_ct)] [] [] []) f99_ct.own f99_ct.fresh no_an Try.f99 (bodyOf Try.f99) f99_ct.A f99_ct.C f99_ct.R ab (l, ()) Q := by kernel_rfl

def V103 (ab : Int × Int) (hp : (Int × Int × Int) × List (Int × Int × Int) × List Int) (Q : Int → Prop) : Prop :=
  (0 : Int) ≤ Prod.fst ab ∧
    Prod.fst ab < (↑(List.length (Prod.fst (Prod.snd hp))) : Int) ∧
      (0 : Int) ≤ Prod.snd ab ∧
        Prod.snd ab < (↑(List.length (Prod.fst (Prod.snd hp))) : Int) ∧
          ∃ (r : Int),
            (f100_wp
                (Prod.fst (Prod.snd (List.getD (Prod.fst (Prod.snd hp)) (Int.toNat (Prod.fst ab)) ((0 : Int), (0 : Int), (0 : Int)))),
                  Prod.fst (Prod.snd (List.getD (Prod.fst (Prod.snd hp)) (Int.toNat (Prod.snd ab)) ((0 : Int), (0 : Int), (0 : Int)))), ())
                () fun (r' : Int) ↦ r' = r) ∧
              Q r
theorem v103 (ab : Int × Int) (hp : (Int × Int × Int) × List (Int × Int × Int) × List Int) (Q : Int → Prop) : V103 ab hp Q = vcFunc (S1 [(100, f100_ct)] [] [] []) f103_ct.own f103_ct.fresh no_an Try.f103 (bodyOf Try.f103) f103_ct.A f103_ct.C f103_ct.R ab (hp, ()) Q := by kernel_rfl

end Go.Proofs.Tq
namespace Go.Proofs.Tq
open Go Go.GX
theorem wrapS {x : Int} (h1 : -9223372036854775808 ≤ x) (h2 : x ≤ 9223372036854775807) : IntKind.wrap .i64 x = x := by
  have hb : (2 : Int) ^ IntKind.i64.bits = 18446744073709551616 := rfl
  have hb' : (2 : Int) ^ (IntKind.i64.bits - 1) = 9223372036854775808 := rfl
  have hs : IntKind.i64.signed = true := rfl
  unfold IntKind.wrap
  simp only [hb, hb', hs, Bool.true_and, decide_eq_true_eq]
  split <;> omega
theorem forUp {σ : Type} {n : Nat} (hn : n ≤ 9223372036854775807) (F : Nat → σ) {s0 : σ} (h0 : s0 = F 0) {body : (Int → σ → Prop) → (Int → σ → Nat) → Int → σ → Prop}
    (hb : ∀ k : Nat, k < n → ∀ (I : Int → σ → Prop) (μ : Int → σ → Nat), (I (k + 1 : Int) (F (k + 1)) ∧ μ (k + 1 : Int) (F (k + 1)) < μ k (F k)) → IntKind.wrap .i64 ((k : Int) + 1) = k + 1 → body I μ k (F k))
    {e : Int → σ → Prop} (he : e n (F n)) :
    ∃ (I : Int → σ → Prop) (μ : Int → σ → Nat), I 0 s0 ∧ ∀ x s, I x s → cnd (decide (x < (n : Int))) (body I μ x s) (e x s) := by
  refine ⟨fun x s => ∃ k : Nat, k ≤ n ∧ x = k ∧ s = F k, fun x _ => (n - x).toNat, ⟨0, Nat.zero_le _, rfl, h0⟩, ?_⟩
  rintro x s ⟨k, hk, rfl, rfl⟩
  refine cnd_iff.2 ⟨fun h => ?_, fun h => ?_⟩
  · have h : (k : Int) < n := of_decide_eq_true h
    refine hb k (by omega) _ _ ⟨⟨k + 1, by omega, by push_cast; rfl, rfl⟩, by omega⟩ (wrapS (by omega) (by omega))
  · have h : ¬ (k : Int) < n := of_decide_eq_false h
    have : k = n := by omega
    subst this
    exact he

theorem forUpG {n : Nat} (hn : n ≤ 9223372036854775807) (go : Nat → Prop) (h0 : go 0) {body : (Int → Prop) → (Int → Nat) → Int → Prop}
    (hb : ∀ k : Nat, k < n → go k → ∀ (I : Int → Prop) (μ : Int → Nat), (go (k + 1) → I (k + 1 : Int) ∧ μ (k + 1 : Int) < μ k) → IntKind.wrap .i64 ((k : Int) + 1) = k + 1 → body I μ k)
    {e : Int → Prop} (he : go n → e n) :
    ∃ (I : Int → Prop) (μ : Int → Nat), I 0 ∧ ∀ x, I x → cnd (decide (x < (n : Int))) (body I μ x) (e x) := by
  refine ⟨fun x => ∃ k : Nat, k ≤ n ∧ x = k ∧ go k, fun x => (n - x).toNat, ⟨0, Nat.zero_le _, rfl, h0⟩, ?_⟩
  rintro x ⟨k, hk, rfl, hg⟩
  refine cnd_iff.2 ⟨fun h => ?_, fun h => ?_⟩
  · have h : (k : Int) < n := of_decide_eq_true h
    refine hb k (by omega) hg _ _ (fun hg' => ⟨⟨k + 1, by omega, by push_cast; rfl, hg'⟩, by omega⟩) (wrapS (by omega) (by omega))
  · have h : ¬ (k : Int) < n := of_decide_eq_false h
    have : k = n := by omega
    subst this
    exact he hg

theorem forUpG1 {σ : Type} {n : Nat} (hn : n ≤ 9223372036854775807) (go : Nat → σ → Prop) {s0 : σ} (h0 : go 0 s0) {body : (Int → σ → Prop) → (Int → σ → Nat) → Int → σ → Prop}
    (hb : ∀ k : Nat, k < n → ∀ s, go k s → ∀ (I : Int → σ → Prop) (μ : Int → σ → Nat), (∀ s', go (k + 1) s' → I (k + 1 : Int) s' ∧ μ (k + 1 : Int) s' < μ k s) → IntKind.wrap .i64 ((k : Int) + 1) = k + 1 → body I μ k s)
    {e : Int → σ → Prop} (he : ∀ s, go n s → e n s) :
    ∃ (I : Int → σ → Prop) (μ : Int → σ → Nat), I 0 s0 ∧ ∀ x s, I x s → cnd (decide (x < (n : Int))) (body I μ x s) (e x s) := by
  refine ⟨fun x s => ∃ k : Nat, k ≤ n ∧ x = k ∧ go k s, fun x _ => (n - x).toNat, ⟨0, Nat.zero_le _, rfl, h0⟩, ?_⟩
  rintro x s ⟨k, hk, rfl, hg⟩
  refine cnd_iff.2 ⟨fun h => ?_, fun h => ?_⟩
  · have h : (k : Int) < n := of_decide_eq_true h
    refine hb k (by omega) s hg _ _ (fun s' hg' => ⟨⟨k + 1, by omega, by push_cast; rfl, hg'⟩, by omega⟩) (wrapS (by omega) (by omega))
  · have h : ¬ (k : Int) < n := of_decide_eq_false h
    have : k = n := by omega
    subst this
    exact he s hg
theorem getD_lt {α : Type} {l : List α} {k : Nat} {d : α} (h : k < l.length) : l.getD k d = l[k] := by simp [List.getD, h]
theorem getD_mem {α : Type} {l : List α} {k : Nat} {d : α} (h : k < l.length) : l.getD k d ∈ l := by
  rw [getD_lt h]; exact List.getElem_mem h
theorem idxF_at {α : Type} {p : α → Bool} {xs : List α} {d : α} {k : Nat} (hk : k < xs.length) (h1 : ∀ j, j < k → p (xs.getD j d) = false) (h2 : p (xs.getD k d) = true) : idxF p xs = k := by
  have : xs.findIdx? p = some k := by
    rw [List.findIdx?_eq_some_iff_getElem]
    refine ⟨hk, by rwa [getD_lt hk] at h2, fun j hj => ?_⟩
    have := h1 j hj
    rw [getD_lt (by omega)] at this
    simp [this]
  simp [idxF, this]
theorem idxF_none {α : Type} {p : α → Bool} {xs : List α} {d : α} (h1 : ∀ j, j < xs.length → p (xs.getD j d) = false) : idxF p xs = -1 := by
  have : xs.findIdx? p = none := by
    rw [List.findIdx?_eq_none_iff]
    intro x hx
    obtain ⟨j, hj, rfl⟩ := List.mem_iff_getElem.1 hx
    have := h1 j hj
    rwa [getD_lt hj] at this
  simp [idxF, this]
theorem idxF_ge {α : Type} (p : α → Bool) (xs : List α) : decide (idxF p xs ≥ 0) = xs.any p := by
  cases h : xs.findIdx? p with
  | some i =>
    have h2 := List.findIdx?_isSome (xs := xs) (p := p)
    rw [h] at h2
    simp only [idxF, h]
    rw [← h2]
    simp
  | none =>
    have h2 := List.findIdx?_isSome (xs := xs) (p := p)
    rw [h] at h2
    simp only [idxF, h]
    rw [← h2]
    rfl
theorem idx_loop {α : Type} {xs : List α} {d : α} {f : α → (Bool → Prop) → Prop} {p : α → Bool} (hs : Says f p xs) {Q : Int → Prop} (h : Q (idxF p xs)) (hl : xs.length ≤ 9223372036854775807) :
    ∃ (I : Int → Prop) (μ : Int → Nat), I 0 ∧ ∀ x, I x → cnd (decide (x < (xs.length : Int))) (0 ≤ x ∧ x < (xs.length : Int) ∧ f (xs.getD x.toNat d) fun r => cnd r (Q x) (I (IntKind.wrap .i64 (x + 1)) ∧ μ (IntKind.wrap .i64 (x + 1)) < μ x)) (Q (-1)) := by
  refine forUpG hl (fun k => ∀ j, j < k → p (xs.getD j d) = false) (fun j hj => absurd hj (Nat.not_lt_zero _)) (body := fun I μ x => 0 ≤ x ∧ x < (xs.length : Int) ∧ f (xs.getD x.toNat d) fun r => cnd r (Q x) (I (IntKind.wrap .i64 (x + 1)) ∧ μ (IntKind.wrap .i64 (x + 1)) < μ x)) ?_ (e := fun _ => Q (-1)) ?_
  · intro k hk hg I μ hI hw
    refine ⟨by omega, by omega, ?_⟩
    show f (xs.getD k d) _
    refine hs _ (getD_mem hk) _ (cnd_iff.2 ⟨fun h1 => ?_, fun h1 => ?_⟩)
    · rw [idxF_at hk hg h1] at h; exact h
    · rw [hw]
      refine hI fun j hj => ?_
      rcases Nat.lt_succ_iff_lt_or_eq.1 hj with h2 | rfl
      · exact hg j h2
      · exact h1
  · intro hg
    rw [idxF_none hg] at h; exact h
end Go.Proofs.Tq
set_option linter.unusedVariables false
set_option maxRecDepth 100000
namespace Go.Proofs.Tq
open Go Go.GX Go.Proofs

theorem p67 {n lo hi : Int} {Q : Bool → Prop} (h : f67_wp n (lo, hi, ()) Q) : V67 n lo hi Q := by
  have h : Q (!inB lo hi n) := h
  refine cnd_iff.2 ⟨fun h1 => ?_, fun h1 => ?_⟩
  · have : (!inB lo hi n) = true := by have := of_decide_eq_true h1; simp [inB]; omega
    rwa [this] at h
  · have : (!inB lo hi n) = decide (n > hi) := by
      have := of_decide_eq_false h1
      have h3 : lo ≤ n := by omega
      by_cases h2 : n > hi
      · simp [inB, h2, h3]; try omega
      · simp [inB, h2, h3]; try omega
    rwa [this] at h
theorem p104 {xs : List Int} {f : Int → (Bool → Prop) → Prop} {Q : Int → Prop} (h : f104_wp (xs, f, ()) () Q) : V104 xs f Q := by
  obtain ⟨p, hs, hq⟩ := h
  intro hl
  exact idx_loop hs hq hl
theorem p96 {xs : List Cut} {f : Cut → (Bool → Prop) → Prop} {Q : Int → Prop} (h : f96_wp (xs, f, ()) () Q) : V96 xs f Q := by
  obtain ⟨p, hs, hq⟩ := h
  intro hl
  exact idx_loop hs hq hl
theorem p65 {xs : List Int} {f : Int → (Bool → Prop) → Prop} {Q : Bool → Prop} (h : f65_wp (xs, f, ()) () Q) : V65 xs f Q := by
  obtain ⟨p, hs, hq⟩ := h
  refine ⟨p, hs, ?_⟩
  show Q (decide (idxF p xs ≥ 0))
  rw [idxF_ge]; exact hq
theorem p61 {xs : List Cut} {f : Cut → (Bool → Prop) → Prop} {Q : Bool → Prop} (h : f61_wp (xs, f, ()) () Q) : V61 xs f Q := by
  obtain ⟨p, hs, hq⟩ := h
  refine ⟨p, hs, ?_⟩
  show Q (decide (idxF p xs ≥ 0))
  rw [idxF_ge]; exact hq
theorem p101 {xs : List Int} {Q : List Int → Prop} (h : f101_wp xs () Q) : V101 xs Q := by
  obtain ⟨hl, h⟩ := h
  intro b hb
  refine cnd_iff.2 ⟨fun h1 => ?_, fun h1 => ⟨?_, h⟩⟩
  · rw [hb h1] at h; exact h
  · simp only [List.length_nil, Nat.zero_add]; omega
theorem p126 {n : Int} {Q : Bool → Prop} (h : f126_wp n () Q) : V126 n Q := by
  show Q (n != n)
  rw [show (n != n) = false by simp]; exact h
theorem p100 {a b : Int} {Q : Int → Prop} (h : f100_wp (a, b, ()) () Q) : V100 a b Q := by
  have h : Q (cmpI3 a b) := h
  unfold cmpI3 at h
  show cnd (decide (a < b)) (Q (-1)) (cnd (decide (a > b)) (Q 1) (Q 0))
  refine cnd_iff.2 ⟨fun h1 => ?_, fun h1 => cnd_iff.2 ⟨fun h2 => ?_, fun h2 => ?_⟩⟩
  · rw [if_pos (of_decide_eq_true h1)] at h; exact h
  · rw [if_neg (of_decide_eq_false h1), if_pos (of_decide_eq_true h2)] at h; exact h
  · rw [if_neg (of_decide_eq_false h1), if_neg (of_decide_eq_false h2)] at h; exact h
theorem wrapU {x : Int} (h1 : 0 ≤ x) (h2 : x ≤ 18446744073709551615) : IntKind.wrap .u64 x = x := by
  have hb : (2 : Int) ^ IntKind.u64.bits = 18446744073709551616 := rfl
  have hs : IntKind.u64.signed = false := rfl
  unfold IntKind.wrap
  simp only [hb, hs, Bool.false_and, Bool.false_eq_true, if_false]
  omega
theorem wrap8 (x : Int) : 0 ≤ IntKind.wrap .u8 x ∧ IntKind.wrap .u8 x < 256 := by
  have hb : (2 : Int) ^ IntKind.u8.bits = 256 := rfl
  have hs : IntKind.u8.signed = false := rfl
  unfold IntKind.wrap
  simp only [hb, hs, Bool.false_and, Bool.false_eq_true, if_false]
  omega
theorem p146 {n : Int} {Q : Int → Prop} (h : f146_wp n () Q) : V146 n Q := by
  have h : ∀ r, Q r := h
  refine ⟨fun _ _ => True, cnd_iff.2 ⟨fun _ => ⟨by decide, trivial⟩, fun _ => trivial⟩, fun x y _ => ⟨fun _ _ => True, cnd_iff.2 ⟨fun _ => ⟨by decide, trivial⟩, fun _ => trivial⟩, fun x y _ => ⟨fun _ _ => True, cnd_iff.2 ⟨fun _ => ⟨by decide, trivial⟩, fun _ => trivial⟩, fun x y _ => ⟨(wrap8 x).1, (wrap8 x).2, h _⟩⟩⟩⟩
theorem p114 {n : Int} {Q : Int → Prop} (h : f114_wp n () Q) : V114 n Q := h

theorem getD_drop {α : Type} {xs : List α} {d : α} {k : Nat} (hk : k < xs.length) : xs.drop k = xs.getD k d :: xs.drop (k + 1) := by
  rw [List.drop_eq_getElem_cons hk, getD_lt hk]
theorem take_succ_getD {α : Type} {xs : List α} {d : α} {k : Nat} (hk : k < xs.length) : xs.take (k + 1) = xs.take k ++ [xs.getD k d] := by
  rw [List.take_succ_eq_append_getElem hk, getD_lt hk]

def accF {α : Type} (c : α → α → Int) (ys : List α) (k : Nat) : List α := (ys.take k).foldl (fun acc x => insRev c x acc) []
theorem accF_succ {α : Type} (c : α → α → Int) (ys : List α) (d : α) {k : Nat} (hk : k < ys.length) : accF c ys (k + 1) = insRev c (ys.getD k d) (accF c ys k) := by
  unfold accF
  rw [take_succ_getD hk, List.foldl_append]; rfl
theorem insRev_length {α : Type} (c : α → α → Int) (x : α) : ∀ l : List α, (insRev c x l).length = l.length + 1
  | [] => rfl
  | y :: r => by
    unfold insRev
    split
    · simp [insRev_length c x r]
    · simp
theorem accF_length {α : Type} (c : α → α → Int) (ys : List α) : ∀ k, k ≤ ys.length → (accF c ys k).length = k
  | 0, _ => rfl
  | k + 1, h => by
    have hk : k < ys.length := h
    rw [accF_succ c ys ys[k] hk, insRev_length, accF_length c ys k (by omega)]
theorem insRev_mem {α : Type} (c : α → α → Int) (x z : α) : ∀ l : List α, z ∈ insRev c x l ↔ z = x ∨ z ∈ l
  | [] => by simp [insRev]
  | y :: r => by
    unfold insRev
    split
    · simp only [List.mem_cons, insRev_mem c x z r]
      constructor
      · rintro (h | h | h) <;> simp [h]
      · rintro (h | h | h) <;> simp [h]
    · simp
theorem accF_mem {α : Type} (c : α → α → Int) (ys : List α) (z : α) : ∀ k, k ≤ ys.length → z ∈ accF c ys k → z ∈ ys
  | 0, _, h => by simp [accF] at h
  | k + 1, hk, h => by
    have hk' : k < ys.length := hk
    rw [accF_succ c ys ys[k] hk', insRev_mem] at h
    rcases h with h | h
    · rw [h, getD_lt hk']; exact List.getElem_mem hk'
    · exact accF_mem c ys z k (by omega) h
theorem swap_at {α : Type} {d : α} (A : List α) (y v : α) (R : List α) : ((A ++ y :: v :: R).set (A.length + 1) ((A ++ y :: v :: R).getD A.length d)).set A.length ((A ++ y :: v :: R).getD (A.length + 1) d) = A ++ v :: y :: R := by
  have h1 : (A ++ y :: v :: R).getD A.length d = y := by simp [List.getD]
  have h2 : (A ++ y :: v :: R).getD (A.length + 1) d = v := by simp [List.getD]
  rw [h1, h2, List.set_append_right _ _ (by omega), List.set_append_right _ _ (by omega)]
  simp
theorem ins_loop {α : Type} {d : α} {f : CmpT α} {c : α → α → Int} {ys : List α} (hs : Says2 f c ys) {Q : Unit → List α → Prop} (h : Q () (insSort c ys)) (hn : ys.length ≤ 9223372036854775000) :
    ∃ (I : Int → List α → Prop) (μ : Int → List α → Nat), I (IntKind.wrap .i64 (0 + 1)) ys ∧ ∀ (x : Int) (x_1 : List α), I x x_1 →
      cnd (decide (x < (ys.length : Int))) (∃ (I_1 : Int → List α → Prop) (μ_1 : Int → List α → Nat), I_1 x x_1 ∧ ∀ (x_2 : Int) (x_3 : List α), I_1 x_2 x_3 →
        cnd (decide (x_2 > 0)) (0 ≤ x_2 ∧ x_2 < (x_3.length : Int) ∧ 0 ≤ IntKind.wrap .i64 (x_2 - 1) ∧ IntKind.wrap .i64 (x_2 - 1) < (x_3.length : Int) ∧
          ∃ r : Int, (f (x_3.getD x_2.toNat d, x_3.getD (IntKind.wrap .i64 (x_2 - 1)).toNat d) fun r' => r' = r) ∧
            cnd (decide (r < 0)) (0 ≤ IntKind.wrap .i64 (x_2 - 1) ∧ IntKind.wrap .i64 (x_2 - 1) < (x_3.length : Int) ∧ 0 ≤ x_2 ∧ x_2 < (x_3.length : Int) ∧ 0 ≤ x_2 ∧ x_2 < (x_3.length : Int) ∧ 0 ≤ IntKind.wrap .i64 (x_2 - 1) ∧
                IntKind.wrap .i64 (x_2 - 1) < ((x_3.set x_2.toNat (x_3.getD (IntKind.wrap .i64 (x_2 - 1)).toNat d)).length : Int) ∧
                I_1 (IntKind.wrap .i64 (x_2 - 1)) ((x_3.set x_2.toNat (x_3.getD (IntKind.wrap .i64 (x_2 - 1)).toNat d)).set (IntKind.wrap .i64 (x_2 - 1)).toNat (x_3.getD x_2.toNat d)) ∧
                μ_1 (IntKind.wrap .i64 (x_2 - 1)) ((x_3.set x_2.toNat (x_3.getD (IntKind.wrap .i64 (x_2 - 1)).toNat d)).set (IntKind.wrap .i64 (x_2 - 1)).toNat (x_3.getD x_2.toNat d)) < μ_1 x_2 x_3)
              (I (IntKind.wrap .i64 (x + 1)) x_3 ∧ μ (IntKind.wrap .i64 (x + 1)) x_3 < μ x x_1))
          (I (IntKind.wrap .i64 (x + 1)) x_3 ∧ μ (IntKind.wrap .i64 (x + 1)) x_3 < μ x x_1)) (Q () x_1) := by
  have hone : IntKind.wrap .i64 ((0 : Int) + 1) = 1 := wrapS (by omega) (by omega)
  have key : ∀ k : Nat, k ≤ 1 → accF c ys k = ys.take k := by
    intro k hk
    cases k with
    | zero => rfl
    | succ k =>
      have : k = 0 := by omega
      subst this
      cases ys with
      | nil => rfl
      | cons y r => rfl
  refine ⟨fun x l => ∃ k : Nat, 1 ≤ k ∧ (k ≤ ys.length ∨ k = 1) ∧ x = k ∧ l = (accF c ys k).reverse ++ ys.drop k, fun x _ => (ys.length - x).toNat, ⟨1, Nat.le_refl _, .inr rfl, hone, ?_⟩, ?_⟩
  · rw [key 1 (Nat.le_refl _)]
    cases ys with
    | nil => rfl
    | cons y r => simp
  rintro x l ⟨k, hk1, hkn, rfl, rfl⟩
  refine cnd_iff.2 ⟨fun hc => ?_, fun hc => ?_⟩
  · have hc : (k : Int) < ys.length := of_decide_eq_true hc
    have hk : k < ys.length := by omega
    have hal := accF_length c ys k (by omega)
    obtain ⟨v, hv⟩ : ∃ v, v = ys.getD k d := ⟨_, rfl⟩
    have hvm : v ∈ ys := by rw [hv]; exact getD_mem hk
    have hwk : IntKind.wrap .i64 ((k : Int) + 1) = k + 1 := wrapS (by omega) (by omega)
    refine ⟨fun j l => ∃ A B : List α, (accF c ys k).reverse = A ++ B ∧ j = A.length ∧ l = A ++ v :: (B ++ ys.drop (k + 1)) ∧ accF c ys (k + 1) = B.reverse ++ insRev c v A.reverse, fun j _ => j.toNat, ?_, ?_⟩
    · refine ⟨(accF c ys k).reverse, [], by simp, by simp [hal], ?_, ?_⟩
      · rw [getD_drop (d := d) hk, ← hv]; rfl
      · rw [accF_succ c ys d hk, ← hv]; simp
    · rintro j l ⟨A, B, h1, rfl, rfl, h4⟩
      have hmem : ∀ z, z ∈ A → z ∈ ys := by
        intro z hz
        refine accF_mem c ys z k (by omega) ?_
        rw [← List.mem_reverse, h1]; simp [hz]
      have hAl : A.length ≤ k := by
        have := congrArg List.length h1
        simp [hal] at this; omega
      have hlen : (A ++ v :: (B ++ ys.drop (k + 1))).length = ys.length := by
        have := congrArg List.length h1
        simp [hal] at this
        simp; omega
      have done : accF c ys (k + 1) = B.reverse ++ (v :: A.reverse) → A ++ v :: (B ++ ys.drop (k + 1)) = (accF c ys (k + 1)).reverse ++ ys.drop (k + 1) := by
        intro e
        rw [e]; simp
      have next : accF c ys (k + 1) = B.reverse ++ (v :: A.reverse) → (∃ k_1 : Nat, 1 ≤ k_1 ∧ (k_1 ≤ ys.length ∨ k_1 = 1) ∧ IntKind.wrap .i64 ((k : Int) + 1) = k_1 ∧ A ++ v :: (B ++ ys.drop (k + 1)) = (accF c ys k_1).reverse ++ ys.drop k_1) ∧ ((ys.length : Int) - IntKind.wrap .i64 ((k : Int) + 1)).toNat < ((ys.length : Int) - k).toNat := by
        intro e
        rw [hwk]
        exact ⟨⟨k + 1, by omega, .inl hk, by push_cast; rfl, done e⟩, by omega⟩
      refine cnd_iff.2 ⟨fun hj => ?_, fun hj => ?_⟩
      · have hj : (A.length : Int) > 0 := of_decide_eq_true hj
        obtain ⟨A', y, rfl⟩ : ∃ A' y, A = A' ++ [y] := by
          rcases List.eq_nil_or_concat A with h | ⟨A', y, h⟩
          · subst h; simp at hj
          · exact ⟨A', y, by simpa using h⟩
        have hL : (A' ++ [y]).length = A'.length + 1 := by simp
        have hw1 : IntKind.wrap .i64 (((A' ++ [y]).length : Int) - 1) = (A'.length : Int) := by
          rw [hL, wrapS (by omega) (by omega)]; omega
        rw [hw1]
        have hl2 : A' ++ [y] ++ v :: (B ++ ys.drop (k + 1)) = A' ++ y :: v :: (B ++ ys.drop (k + 1)) := by simp
        rw [hl2] at hlen ⊢
        rw [hL] at hAl ⊢
        simp only [Int.toNat_natCast, hlen, List.length_set]
        have g1 : (A' ++ y :: v :: (B ++ ys.drop (k + 1))).getD (A'.length + 1) d = v := by simp [List.getD]
        have g2 : (A' ++ y :: v :: (B ++ ys.drop (k + 1))).getD A'.length d = y := by simp [List.getD]
        refine ⟨by omega, by omega, by omega, by omega, c v y, ?_, ?_⟩
        · rw [g1, g2]
          exact hs v hvm y (hmem y (by simp)) _ rfl
        · have h4' : accF c ys (k + 1) = B.reverse ++ insRev c v (y :: A'.reverse) := by
            rw [h4]; simp
          refine cnd_iff.2 ⟨fun hr => ?_, fun hr => ?_⟩
          · have hr : c v y < 0 := of_decide_eq_true hr
            refine ⟨by omega, by omega, by omega, by omega, by omega, by omega, by omega, by omega, ⟨A', y :: B, by rw [h1]; simp, rfl, ?_, ?_⟩, by omega⟩
            · rw [swap_at]; simp
            · rw [h4', insRev, if_pos hr]; simp
          · have hr : ¬ c v y < 0 := of_decide_eq_false hr
            have := next (by rw [h4', insRev, if_neg hr]; simp)
            rw [hl2] at this
            exact this
      · have hj : ¬ (A.length : Int) > 0 := of_decide_eq_false hj
        have : A = [] := List.eq_nil_of_length_eq_zero (by omega)
        subst this
        exact next (by rw [h4]; rfl)
  · have hc : ¬ (k : Int) < ys.length := of_decide_eq_false hc
    have e : insSort c ys = (accF c ys k).reverse ++ ys.drop k := by
      have hd : ys.drop k = [] := List.drop_eq_nil_of_le (by omega)
      have ht : ys.take k = ys := List.take_of_length_le (by omega)
      rw [hd, List.append_nil]
      unfold accF insSort
      rw [ht]
    rw [← e]; exact h
theorem p148 {ys : List Int} {a b : Int} {f : CmpT Int} {Q : Unit → List Int → Prop} (h : f148_wp ys (a, b, f, ()) () Q) : V148 ys a b f Q := by
  obtain ⟨c, hs, ha, hb, hl, h⟩ := h
  have ha : a = 0 := ha
  have hb : b = ys.length := hb
  subst ha; subst hb
  exact ins_loop hs h (by omega)
theorem p125 {ys : List Int} {n : Int} {f : CmpT Int} {Q : Unit → List Int → Prop} (h : f125_wp ys (n, f, ()) () Q) : V125 ys n f Q := by
  obtain ⟨c, hs, hn, hl, h⟩ := h
  have hn : n = ys.length := hn
  subst hn
  refine ⟨fun x y l => x = 0 ∧ y = 20 ∧ l = ys, fun _ _ _ => 0, ⟨rfl, rfl, rfl⟩, ?_⟩
  rintro x y l ⟨rfl, rfl, rfl⟩
  refine cnd_iff.2 ⟨fun hc => ?_, fun _ => ⟨c, hs, rfl, rfl, by omega, fun x => x = 20, fun _ => 0, rfl, ?_⟩⟩
  · have := of_decide_eq_true hc; omega
  · rintro x rfl
    refine cnd_iff.2 ⟨fun hc => ?_, fun _ => h⟩
    have := of_decide_eq_true hc; omega
theorem p98 {ys : List Int} {f : CmpT Int} {Q : Unit → List Int → Prop} (h : f98_wp ys (f, ()) () Q) : V98 ys f Q := by
  obtain ⟨c, hs, hl, h⟩ := h
  intro _
  exact ⟨c, hs, rfl, hl, h⟩
theorem p127 {ys : List Int} {a b l : Int} {f : CmpT Int} {Q : Unit → List Int → Prop} (h : f127_wp ys (a, b, l, f, ()) () Q) : V127 ys a b l f Q := by
  obtain ⟨c, hs, ha, hb, hl, h⟩ := h
  have ha : a = 0 := ha
  have hb : b = ys.length := hb
  subst ha; subst hb
  refine ⟨fun x y _ => x = 0 ∧ y = ys.length, fun _ _ _ => 0, ⟨rfl, rfl⟩, ?_⟩
  rintro x y z ⟨rfl, rfl⟩
  have hw : IntKind.wrap .i64 ((ys.length : Int) - 0) = ys.length := by rw [wrapS (by omega) (by omega)]; omega
  refine cnd_iff.2 ⟨fun _ => ⟨c, hs, rfl, rfl, by omega, h⟩, fun hc => ?_⟩
  rw [hw] at hc
  have := of_decide_eq_false hc; omega
theorem p102 {ys : List Int} {f : CmpT Int} {Q : Unit → List Int → Prop} (h : f102_wp ys (f, ()) () Q) : V102 ys f Q := by
  obtain ⟨c, hs, hl, h⟩ := h
  intro _ r
  exact ⟨c, hs, rfl, rfl, hl, h⟩

end Go.Proofs.Tq
set_option linter.unusedVariables false
set_option maxRecDepth 100000
namespace Go.Proofs.Tq
open Go Go.GX Go.Proofs
theorem any_not {α : Type} (p : α → Bool) (xs : List α) : (!(xs.any fun n => !p n)) = xs.all p := by
  rw [List.all_eq_not_any_not]
theorem p37 {lo hi : Int} {xs : List Int} {Q : Bool → Prop} (h : f37_wp (lo, hi, xs, ()) () Q) : V37 lo hi xs Q := by
  refine ⟨fun n => !inB lo hi n, fun x _ Q h => h, ?_⟩
  have h : Q (xs.all (inB lo hi)) := h
  show Q (!(xs.any fun n => !inB lo hi n))
  rw [any_not]; exact h
theorem all_one (lo hi x : Int) : [x].all (inB lo hi) = inB lo hi x := by simp
theorem in37 {lo hi x : Int} {K : Bool → Prop} (h : K (inB lo hi x)) : f37_wp (lo, hi, [x], ()) () K := by
  show K ([x].all (inB lo hi))
  rw [all_one]; exact h
theorem p60 {c : Cut} {Q : Bool → Prop} (h : f60_wp c () Q) : V60 c Q := by
  have h : Q (!cutB c) := h
  unfold cutB at h
  refine in37 (cnd_iff.2 ⟨fun e => ?_, fun e => in37 (cnd_iff.2 ⟨fun e2 => ?_, fun e2 => in37 ?_⟩)⟩)
  · have e : inB 0 3 c.1 = false := by simpa using e
    rw [e] at h; exact h
  · have e : inB 0 3 c.1 = true := by simpa using e
    have e2 : inB 1 12 c.2.1 = false := by simpa using e2
    rw [e, e2] at h; exact h
  · have e : inB 0 3 c.1 = true := by simpa using e
    have e2 : inB 1 12 c.2.1 = true := by simpa using e2
    rw [e, e2] at h; exact h
theorem p62 {s : Int × Int} {Q : Int → Prop} (h : f62_wp s () Q) : V62 s Q := by
  obtain ⟨⟨h1, h2, h3, h4⟩, h⟩ := h
  show Q _
  rw [wrapS (x := s.1 * 12) (by omega) (by omega), wrapS (x := s.1 * 12 + s.2) (by omega) (by omega), wrapS (x := s.1 * 12 + s.2 - 1) (by omega) (by omega)]
  exact h
theorem p99 {ab : Int × Int} {l : List Cut} {Q : Int → Prop} (h : f99_wp ab (l, ()) Q) : V99 ab l Q := by
  obtain ⟨⟨h1, h2, h3, h4⟩, h⟩ := h
  exact ⟨h1, h2, h3, h4, _, rfl, h⟩
theorem p103 {ab : Int × Int} {hp : Heap} {Q : Int → Prop} (h : f103_wp ab (hp, ()) Q) : V103 ab hp Q := by
  obtain ⟨⟨h1, h2, h3, h4⟩, h⟩ := h
  exact ⟨h1, h2, h3, h4, _, rfl, h⟩

theorem and_n {x y : Nat} (hx : x < 2 ^ 64) (hy : y < 2 ^ 64) : BitVec.toNat (BitVec.ofInt (IntKind.bits IntKind.u64) (x : Int) &&& BitVec.ofInt (IntKind.bits IntKind.u64) (y : Int)) = x &&& y := by
  show BitVec.toNat (BitVec.ofInt 64 (x : Int) &&& BitVec.ofInt 64 (y : Int)) = _
  rw [BitVec.toNat_and, BitVec.ofInt_natCast, BitVec.ofInt_natCast, BitVec.toNat_ofNat, BitVec.toNat_ofNat, Nat.mod_eq_of_lt hx, Nat.mod_eq_of_lt hy]
theorem or_n {x y : Nat} (hx : x < 2 ^ 64) (hy : y < 2 ^ 64) : BitVec.toNat (BitVec.ofInt (IntKind.bits IntKind.u64) (x : Int) ||| BitVec.ofInt (IntKind.bits IntKind.u64) (y : Int)) = x ||| y := by
  show BitVec.toNat (BitVec.ofInt 64 (x : Int) ||| BitVec.ofInt 64 (y : Int)) = _
  rw [BitVec.toNat_or, BitVec.ofInt_natCast, BitVec.ofInt_natCast, BitVec.toNat_ofNat, BitVec.toNat_ofNat, Nat.mod_eq_of_lt hx, Nat.mod_eq_of_lt hy]
theorem shrN (T a : Nat) (ha : a < 64) : Int.fdiv (T : Int) ((2 : Int) ^ min (Int.toNat (a : Int)) (IntKind.bits IntKind.u64)) = ((T / 2 ^ a : Nat) : Int) := by
  have e : min (Int.toNat (a : Int)) (IntKind.bits IntKind.u64) = a := by
    show min a 64 = a
    omega
  rw [e, Int.fdiv_eq_ediv_of_nonneg _ (by exact Int.le_of_lt (Int.pow_pos (by decide)))]
  push_cast; rfl
theorem bit_get {T a : Nat} (hT : T < 2 ^ 64) (ha : a < 64) :
    (IntKind.wrap IntKind.u64 (↑(BitVec.toNat (BitVec.ofInt (IntKind.bits IntKind.u64) (Int.fdiv (T : Int) ((2 : Int) ^ min (Int.toNat (a : Int)) (IntKind.bits IntKind.u64))) &&& BitVec.ofInt (IntKind.bits IntKind.u64) 1)) : Int) == 1) = T.testBit a := by
  have e : BitVec.toNat (BitVec.ofInt (IntKind.bits IntKind.u64) ((T / 2 ^ a : Nat) : Int) &&& BitVec.ofInt (IntKind.bits IntKind.u64) 1) = T / 2 ^ a % 2 :=
    (and_n (y := 1) (Nat.lt_of_le_of_lt (Nat.div_le_self _ _) hT) (by decide)).trans (Nat.and_one_is_mod _)
  rw [shrN T a ha, e, wrapU (by omega) (by have := Nat.mod_lt (T / 2 ^ a) (show 0 < 2 by omega); omega), Nat.testBit_eq_decide_div_mod_eq]
  rcases Nat.mod_two_eq_zero_or_one (T / 2 ^ a) with h | h <;> rw [h] <;> rfl
theorem bit_set {T a : Nat} (hT : T < 2 ^ 48) (ha : a < 48) :
    IntKind.wrap IntKind.u64 (↑(BitVec.toNat (BitVec.ofInt (IntKind.bits IntKind.u64) (T : Int) ||| BitVec.ofInt (IntKind.bits IntKind.u64) (IntKind.wrap IntKind.u64 (1 * (2 : Int) ^ min (Int.toNat (a : Int)) (IntKind.bits IntKind.u64))))) : Int) = ((T ||| 2 ^ a : Nat) : Int) ∧ T ||| 2 ^ a < 2 ^ 48 := by
  have hp : 2 ^ a < 2 ^ 48 := Nat.pow_lt_pow_right (by omega) ha
  have hor : T ||| 2 ^ a < 2 ^ 48 := Nat.or_lt_two_pow hT hp
  refine ⟨?_, hor⟩
  have e : min (Int.toNat (a : Int)) (IntKind.bits IntKind.u64) = a := by
    show min a 64 = a
    omega
  have e2 : (1 * (2 : Int) ^ a) = ((2 ^ a : Nat) : Int) := by push_cast; omega
  have p48 : (2 : Nat) ^ 48 = 281474976710656 := rfl
  have p64 : (2 : Nat) ^ 64 = 18446744073709551616 := rfl
  rw [e, e2, wrapU (x := ((2 ^ a : Nat) : Int)) (Int.natCast_nonneg _) (Int.ofNat_le.2 (show 2 ^ a ≤ 18446744073709551615 by omega)), or_n (by omega) (by omega), wrapU (by omega) (by omega)]
theorem cutB_iff {c : Cut} : cutB c = true ↔ (0 ≤ c.1 ∧ c.1 ≤ 3) ∧ (1 ≤ c.2.1 ∧ c.2.1 ≤ 12) ∧ (1 ≤ c.2.2 ∧ c.2.2 ≤ 1000) := by
  simp only [cutB, inB, Bool.and_eq_true, decide_eq_true_eq, and_assoc]
theorem nodup_step {l : List Cut} {k : Nat} (hk : k < l.length) : ((l.take (k + 1)).map atF).Nodup ↔ ((l.take k).map atF).Nodup ∧ ∀ j, j < k → atF (l.getD j c0) ≠ atF (l.getD k c0) := by
  rw [take_succ_getD (d := c0) hk, List.map_append, List.nodup_append]
  constructor
  · rintro ⟨h1, _, h3⟩
    refine ⟨h1, fun j hj e => h3 _ (List.mem_map.2 ⟨l.getD j c0, ?_, rfl⟩) _ (by simp) e⟩
    rw [getD_lt (by omega : j < l.length)]
    exact List.mem_take_iff_getElem.2 ⟨j, by omega, rfl⟩
  · rintro ⟨h1, h2⟩
    refine ⟨h1, by simp, fun a ha b hb e => ?_⟩
    obtain ⟨c, hc, rfl⟩ := List.mem_map.1 ha
    obtain ⟨j, hj, rfl⟩ := List.mem_take_iff_getElem.1 hc
    have hb : b = atF (l.getD k c0) := by simpa using hb
    refine h2 j (by omega) ?_
    rw [getD_lt (by omega : j < l.length), e, hb]
theorem nodup_sub {l : List Cut} {k : Nat} (h : (l.map atF).Nodup) : ((l.take k).map atF).Nodup := List.Nodup.sublist ((List.take_sublist k l).map atF) h
theorem p29 {l : List Cut} {f : Rule} {Q : Int → Prop} (h : f29_wp (l, f, ()) () Q) : V29 l f Q := by
  have h : Q (openC l f) := h
  unfold openC at h
  intro hl
  refine cnd_iff.2 ⟨fun e => ?_, fun e => ?_⟩
  · have e : (l.length : Int) > 24 := of_decide_eq_true e
    rw [if_pos (by omega)] at h; exact h
  have e : ¬ (l.length : Int) > 24 := of_decide_eq_false e
  rw [if_neg (by omega)] at h
  refine ⟨fun c => !cutB c, fun x _ Q h => h, cnd_iff.2 ⟨fun e1 => ?_, fun e1 hl2 => ?_⟩⟩
  · rw [if_pos e1] at h; exact h
  rw [if_neg (by rw [e1]; simp)] at h
  have hc : ∀ k, k < l.length → (0 ≤ (l.getD k c0).1 ∧ (l.getD k c0).1 ≤ 3) ∧ (1 ≤ (l.getD k c0).2.1 ∧ (l.getD k c0).2.1 ≤ 12) ∧ (1 ≤ (l.getD k c0).2.2 ∧ (l.getD k c0).2.2 ≤ 1000) := fun k hk => cutB_iff.1 (by
    have := List.any_eq_false.1 e1 _ (getD_mem (d := c0) hk)
    simpa using this)
  refine forUpG1 (by omega) (fun k s => ∃ T : Nat, s = (T : Int) ∧ T < 2 ^ 48 ∧ (∀ i : Nat, T.testBit i = true ↔ ∃ j, j < k ∧ atF (l.getD j c0) = i) ∧ ((l.take k).map atF).Nodup) ⟨0, rfl, by omega, fun i => by simp, by simp⟩ ?_ ?_
  · rintro k hk _ ⟨T, rfl, hT, hbits, hnd⟩ I μ hI hw
    obtain ⟨c1, c2, _⟩ := hc k hk
    refine ⟨by omega, by omega, ⟨c1.1, c1.2, c2.1, c2.2⟩, ?_⟩
    obtain ⟨a, ha⟩ : ∃ a : Nat, atF (l.getD k c0) = (a : Int) := ⟨(atF (l.getD k c0)).toNat, by unfold atF; omega⟩
    have ha48 : a < 48 := by unfold atF at ha; omega
    have e2 : (l.getD (Int.toNat (k : Int)) (0, 0, 0)).1 * 12 + (l.getD (Int.toNat (k : Int)) (0, 0, 0)).2.1 - 1 = (a : Int) := ha
    show 0 ≤ (l.getD (Int.toNat (k : Int)) (0, 0, 0)).1 * 12 + (l.getD (Int.toNat (k : Int)) (0, 0, 0)).2.1 - 1 ∧ _
    simp only [e2]
    refine ⟨by omega, ?_⟩
    have hg := bit_get (T := T) (a := a) (Nat.lt_trans hT (by decide)) (by omega)
    rw [hg]
    refine cnd_iff.2 ⟨fun e3 => ?_, fun e3 => ⟨by omega, ?_⟩⟩
    · obtain ⟨j, hj, hja⟩ := (hbits a).1 e3
      have : twiceB l = true := by
        unfold twiceB
        refine decide_eq_true fun hn => ?_
        have h1 := nodup_sub (k := k + 1) hn
        exact ((nodup_step hk).1 h1).2 j hj (by rw [hja, ha])
      rw [if_pos this] at h; exact h
    · obtain ⟨s1, s2⟩ := bit_set (T := T) (a := a) hT ha48
      rw [s1, hw]
      refine hI _ ⟨T ||| 2 ^ a, rfl, s2, fun i => ?_, (nodup_step hk).2 ⟨hnd, fun j hj hja => ?_⟩⟩
      · rw [Nat.testBit_or, Bool.or_eq_true, hbits, Nat.testBit_two_pow, decide_eq_true_eq]
        constructor
        · rintro (⟨j, hj, hja⟩ | rfl)
          · exact ⟨j, by omega, hja⟩
          · exact ⟨k, by omega, ha⟩
        · rintro ⟨j, hj, hja⟩
          rcases Nat.lt_succ_iff_lt_or_eq.1 hj with hj | rfl
          · exact .inl ⟨j, hj, hja⟩
          · exact .inr (by omega)
      · have := (hbits a).2 ⟨j, hj, by rw [hja, ha]⟩
        rw [e3] at this; cases this
  · rintro _ ⟨T, rfl, hT, hbits, hnd⟩
    rw [List.take_length] at hnd
    have : twiceB l = false := by unfold twiceB; simpa using hnd
    rw [if_neg (by rw [this]; simp)] at h
    refine ⟨fun b => b = !ruleB f, in37 (cnd_iff.2 ⟨fun e => ?_, fun e => in37 (cnd_iff.2 ⟨fun e2 => ?_, fun e2 => in37 ?_⟩)⟩), ?_⟩
    · have e : inB 2 12 f.1 = false := by simpa using e
      show true = _
      unfold ruleB
      rw [e]; rfl
    · have e : inB 2 12 f.1 = true := by simpa using e
      have e2 : inB 0 100 f.2.1 = false := by simpa using e2
      show true = _
      unfold ruleB
      rw [e, e2]; rfl
    · have e : inB 2 12 f.1 = true := by simpa using e
      have e2 : inB 0 100 f.2.1 = true := by simpa using e2
      show (!inB 0 1000 f.2.2) = _
      unfold ruleB
      rw [e, e2]; rfl
    · rintro _ rfl
      cases hr : ruleB f with
      | true => rw [if_pos hr] at h; exact h
      | false => rw [if_neg (by rw [hr]; simp)] at h; exact h
end Go.Proofs.Tq
set_option linter.unusedVariables false
set_option maxRecDepth 100000
namespace Go.Proofs.Tq
open Go Go.GX Go.Proofs
theorem insRev_perm {α : Type} (c : α → α → Int) (x : α) : ∀ l : List α, (insRev c x l).Perm (x :: l)
  | [] => .refl _
  | y :: r => by
    unfold insRev
    split
    · exact ((insRev_perm c x r).cons y).trans (.swap _ _ _)
    · exact .refl _
theorem insFold_perm {α : Type} (c : α → α → Int) : ∀ (xs acc : List α), (xs.foldl (fun acc x => insRev c x acc) acc).Perm (xs ++ acc)
  | [], acc => .refl _
  | x :: r, acc => by
    rw [List.foldl_cons]
    exact (insFold_perm c r _).trans (((insRev_perm c x acc).append_left r).trans List.perm_middle)
theorem insSort_perm {α : Type} (c : α → α → Int) (xs : List α) : (insSort c xs).Perm xs := by
  unfold insSort
  refine (List.reverse_perm _).trans ?_
  have := insFold_perm c xs []
  simpa using this

theorem insSort_len {α : Type} (c : α → α → Int) (xs : List α) : (insSort c xs).length = xs.length := (insSort_perm c xs).length_eq
theorem insSort_mem {α : Type} (c : α → α → Int) (xs : List α) (x : α) : x ∈ insSort c xs ↔ x ∈ xs := (insSort_perm c xs).mem_iff
theorem nums_mem {l : List Cut} {t i : Int} : i ∈ numsF l t ↔ ∃ k : Nat, k < l.length ∧ i = k ∧ (l.getD k c0).1 = t := by
  unfold numsF
  rw [List.mem_filter, List.mem_map]
  constructor
  · rintro ⟨⟨k, hk, rfl⟩, h⟩
    exact ⟨k, List.mem_range.1 hk, rfl, by simpa using h⟩
  · rintro ⟨k, hk, rfl, h⟩
    exact ⟨⟨k, List.mem_range.2 hk, rfl⟩, by simpa using h⟩
theorem nums_nodup (l : List Cut) (t : Int) : (numsF l t).Nodup := by
  unfold numsF
  refine List.Nodup.sublist List.filter_sublist ?_
  exact List.pairwise_map.2 ((List.nodup_range (n := l.length)).imp fun h e => h (by omega))
theorem nums_len {l : List Cut} (h : CutsOK l) (t : Int) : (numsF l t).length ≤ 12 := by
  have hinj : ((numsF l t).map fun i => (l.getD i.toNat c0).2.1).Nodup := by
    refine List.pairwise_map.2 ((nums_nodup l t).imp_of_mem fun {a b} ha hb hab e => ?_)
    obtain ⟨i, hi, rfl, ti⟩ := nums_mem.1 ha
    obtain ⟨j, hj, rfl, tj⟩ := nums_mem.1 hb
    have e : (l.getD i c0).2.1 = (l.getD j c0).2.1 := e
    have hat : atF (l.getD i c0) = atF (l.getD j c0) := by unfold atF; rw [ti, tj, e]
    have hij : i ≠ j := fun h => hab (by rw [h])
    have hn := h.one
    rw [getD_lt hi, getD_lt hj] at hat
    have hp := List.pairwise_iff_getElem.1 hn
    rcases Nat.lt_or_gt_of_ne hij with hlt | hlt
    · exact hp i j (by simpa using hi) (by simpa using hj) hlt (by simpa using hat)
    · exact hp j i (by simpa using hj) (by simpa using hi) hlt (by simpa using hat.symm)
  have hsub : ((numsF l t).map fun i => (l.getD i.toNat c0).2.1) ⊆ (List.range 12).map fun (k : Nat) => (k : Int) + 1 := by
    intro x hx
    obtain ⟨i, hi, rfl⟩ := List.mem_map.1 hx
    obtain ⟨k, hk, rfl, _⟩ := nums_mem.1 hi
    have := (cutB_iff.1 (h.c _ (getD_mem (d := c0) hk))).2.1
    exact List.mem_map.2 ⟨((l.getD k c0).2.1 - 1).toNat, List.mem_range.2 (by omega), by
      show ((((l.getD k c0).2.1 - 1).toNat : Nat) : Int) + 1 = (l.getD k c0).2.1
      omega⟩
  have := hinj.length_le_of_subset hsub
  simpa using this
theorem heap_ok {l : List Cut} {f : Rule} (h : CutsOK l) (hf : ruleB f = true) (t : Int) : HeapOK (heapF l f t) := by
  refine ⟨hf, h.n, h.c, ?_, fun i hi => ?_⟩
  · show (insSort (thickC l) (numsF l t)).length ≤ 24
    rw [insSort_len]
    have := nums_len h t
    omega
  · obtain ⟨k, hk, rfl, _⟩ := nums_mem.1 ((insSort_mem _ _ _).1 hi)
    show 0 ≤ (k : Int) ∧ (k : Int) < (l.length : Int)
    omega

theorem fans_fuel (h : Heap) (hc : 1 ≤ h.1.1) : ∀ (n m : Nat) (rest : List Int), rest.length ≤ n → rest.length ≤ m → fansN h n rest = fansN h m rest
  | 0, 0, _, _, _ => rfl
  | 0, m + 1, rest, h1, _ => by
    show [] = fansN h (m + 1) rest
    unfold fansN
    rw [if_pos (by omega)]
  | n + 1, 0, rest, _, h1 => by
    show fansN h (n + 1) rest = []
    unfold fansN
    rw [if_pos (by omega)]
  | n + 1, m + 1, rest, h1, h2 => by
    unfold fansN
    split
    · rfl
    · rw [fans_fuel h hc n m (rest.drop h.1.1.toNat) (by rw [List.length_drop]; omega) (by rw [List.length_drop]; omega), fans_fuel h hc n m (rest.drop 1) (by rw [List.length_drop]; omega) (by rw [List.length_drop]; omega)]
theorem fans_len (h : Heap) (hc : 1 ≤ h.1.1) : ∀ (n : Nat) (rest : List Int), (fansN h n rest).length * h.1.1.toNat ≤ rest.length
  | 0, rest => by simp [fansN]
  | n + 1, rest => by
    unfold fansN
    split
    · simp
    · split
      · have := fans_len h hc n (rest.drop h.1.1.toNat)
        rw [List.length_drop] at this
        rw [List.length_cons, Nat.add_mul]
        omega
      · have := fans_len h hc n (rest.drop 1)
        rw [List.length_drop] at this
        omega
end Go.Proofs.Tq
set_option linter.unusedVariables false
set_option maxRecDepth 100000
namespace Go.Proofs.Tq
open Go Go.GX Go.Proofs

def V64 (hp : (Int × Int × Int) × List (Int × Int × Int) × List Int) (Q : List (List Int) → Prop) : Prop :=
  ∃ (I : Int → List (List Int) → Prop),
    ∃ (μ : Int → List (List Int) → Nat),
      I (0 : Int) ([] : List (List Int)) ∧
        ∀ (x : Int) (x_1 : List (List Int)),
          I x x_1 →
            List.length (Prod.snd (Prod.snd hp)) ≤ (9223372036854775807 : Nat) →
              cnd (decide (IntKind.wrap IntKind.i64 (x + Prod.fst (Prod.fst hp)) ≤ (↑(List.length (Prod.snd (Prod.snd hp))) : Int)))
                ((0 : Int) ≤ x ∧
                  x ≤ IntKind.wrap IntKind.i64 (x + Prod.fst (Prod.fst hp)) ∧
                    IntKind.wrap IntKind.i64 (x + Prod.fst (Prod.fst hp)) ≤ (↑(List.length (Prod.snd (Prod.snd hp))) : Int) ∧
                      (0 : Int) ≤ (0 : Int) ∧
                        (0 : Int) <
                            (↑(List.length
                                  (List.drop (Int.toNat x)
                                    (List.take (Int.toNat (IntKind.wrap IntKind.i64 (x + Prod.fst (Prod.fst hp)))) (Prod.snd (Prod.snd hp))))) :
                              Int) ∧
                          (0 : Int) ≤
                              List.getD
                                (List.drop (Int.toNat x)
                                  (List.take (Int.toNat (IntKind.wrap IntKind.i64 (x + Prod.fst (Prod.fst hp)))) (Prod.snd (Prod.snd hp))))
                                (Int.toNat (0 : Int)) (0 : Int) ∧
                            List.getD
                                  (List.drop (Int.toNat x)
                                    (List.take (Int.toNat (IntKind.wrap IntKind.i64 (x + Prod.fst (Prod.fst hp)))) (Prod.snd (Prod.snd hp))))
                                  (Int.toNat (0 : Int)) (0 : Int) <
                                (↑(List.length (Prod.fst (Prod.snd hp))) : Int) ∧
                              (0 : Int) ≤ IntKind.wrap IntKind.i64 (Prod.fst (Prod.fst hp) - (1 : Int)) ∧
                                IntKind.wrap IntKind.i64 (Prod.fst (Prod.fst hp) - (1 : Int)) <
                                    (↑(List.length
                                          (List.drop (Int.toNat x)
                                            (List.take (Int.toNat (IntKind.wrap IntKind.i64 (x + Prod.fst (Prod.fst hp)))) (Prod.snd (Prod.snd hp))))) :
                                      Int) ∧
                                  (0 : Int) ≤
                                      List.getD
                                        (List.drop (Int.toNat x)
                                          (List.take (Int.toNat (IntKind.wrap IntKind.i64 (x + Prod.fst (Prod.fst hp)))) (Prod.snd (Prod.snd hp))))
                                        (Int.toNat (IntKind.wrap IntKind.i64 (Prod.fst (Prod.fst hp) - (1 : Int)))) (0 : Int) ∧
                                    List.getD
                                          (List.drop (Int.toNat x)
                                            (List.take (Int.toNat (IntKind.wrap IntKind.i64 (x + Prod.fst (Prod.fst hp)))) (Prod.snd (Prod.snd hp))))
                                          (Int.toNat (IntKind.wrap IntKind.i64 (Prod.fst (Prod.fst hp) - (1 : Int)))) (0 : Int) <
                                        (↑(List.length (Prod.fst (Prod.snd hp))) : Int) ∧
                                      cnd
                                        (decide
                                          (IntKind.wrap IntKind.i64
                                              (IntKind.wrap IntKind.i64
                                                  (Prod.snd
                                                      (Prod.snd
                                                        (List.getD (Prod.fst (Prod.snd hp))
                                                          (Int.toNat
                                                            (List.getD
                                                              (List.drop (Int.toNat x)
                                                                (List.take (Int.toNat (IntKind.wrap IntKind.i64 (x + Prod.fst (Prod.fst hp))))
                                                                  (Prod.snd (Prod.snd hp))))
                                                              (Int.toNat (IntKind.wrap IntKind.i64 (Prod.fst (Prod.fst hp) - (1 : Int)))) (0 : Int)))
                                                          ((0 : Int), (0 : Int), (0 : Int)))) -
                                                    Prod.snd
                                                      (Prod.snd
                                                        (List.getD (Prod.fst (Prod.snd hp))
                                                          (Int.toNat
                                                            (List.getD
                                                              (List.drop (Int.toNat x)
                                                                (List.take (Int.toNat (IntKind.wrap IntKind.i64 (x + Prod.fst (Prod.fst hp))))
                                                                  (Prod.snd (Prod.snd hp))))
                                                              (Int.toNat (0 : Int)) (0 : Int)))
                                                          ((0 : Int), (0 : Int), (0 : Int))))) +
                                                IntKind.wrap IntKind.i64 ((2 : Int) * Prod.fst (Prod.snd (Prod.fst hp)))) >
                                            Prod.snd (Prod.snd (Prod.fst hp))))
                                        (I (IntKind.wrap IntKind.i64 (x + (1 : Int))) x_1 ∧ μ (IntKind.wrap IntKind.i64 (x + (1 : Int))) x_1 < μ x x_1)
                                        (f101_wp
                                          (List.drop (Int.toNat x)
                                            (List.take (Int.toNat (IntKind.wrap IntKind.i64 (x + Prod.fst (Prod.fst hp)))) (Prod.snd (Prod.snd hp))))
                                          () fun (r : List Int) ↦
                                          f102_wp r
                                            (fun (x : Int × Int) (Q : Int → Prop) ↦
                                              f103_wp x
                                                (((Prod.fst (Prod.fst hp), Prod.fst (Prod.snd (Prod.fst hp)), Prod.snd (Prod.snd (Prod.fst hp))),
                                                    Prod.fst (Prod.snd hp), Prod.snd (Prod.snd hp)),
                                                  ())
                                                fun (r : Int) ↦ Q r,
                                              ())
                                            () fun (r : Unit) (zs : List Int) ↦
                                            (List.length x_1 + List.length (zs :: ([] : List (List Int)))) * (24 : Nat) ≤ (140737488355328 : Nat) ∧
                                              I (IntKind.wrap IntKind.i64 (x + Prod.fst (Prod.fst hp))) (x_1 ++ zs :: ([] : List (List Int))) ∧
                                                μ (IntKind.wrap IntKind.i64 (x + Prod.fst (Prod.fst hp))) (x_1 ++ zs :: ([] : List (List Int))) <
                                                  μ x x_1))
                (Q x_1)
theorem v64 (hp : (Int × Int × Int) × List (Int × Int × Int) × List Int) (Q : List (List Int) → Prop) : V64 hp Q = vcFunc (S1 [(101, f101_ct), (103, f103_ct)] [(102, f102_ct)] [] []) f64_ct.own f64_ct.fresh f64_an Try.f64 (bodyOf Try.f64) f64_ct.A f64_ct.C f64_ct.R hp () Q := by kernel_rfl

def V30 (l : List (Int × Int × Int)) (f : Int × Int × Int) (Q : List (List Int) → Prop) : Prop :=
  f63_wp (l, (Prod.fst f, Prod.fst (Prod.snd f), Prod.snd (Prod.snd f)), ()) () fun (r : Kd.T (Ct.R (Prod.snd ((63 : Nat), f63_ct)))) ↦
    ∃ (I : List ((Int × Int × Int) × List (Int × Int × Int) × List Int) → List (List Int) × Unit → Prop),
      I ([] : List ((Int × Int × Int) × List (Int × Int × Int) × List Int)) (([] : List (List Int)), ()) ∧
        (∀ (pre : List ((Int × Int × Int) × List (Int × Int × Int) × List Int)) (x : (Int × Int × Int) × List (Int × Int × Int) × List Int)
            (rest : List ((Int × Int × Int) × List (Int × Int × Int) × List Int)),
            r = pre ++ x :: rest →
              ∀ (x_1 : List (List Int) × Unit),
                I pre x_1 →
                  ∃ (r : List (List Int)),
                    (f64_wp
                        ((Prod.fst (Prod.fst x), Prod.fst (Prod.snd (Prod.fst x)), Prod.snd (Prod.snd (Prod.fst x))), Prod.fst (Prod.snd x),
                          Prod.snd (Prod.snd x))
                        () fun (r' : List (List Int)) ↦ r' = r) ∧
                      (List.length (Prod.fst x_1) + List.length r) * (24 : Nat) ≤ (140737488355328 : Nat) ∧
                        I (pre ++ x :: ([] : List ((Int × Int × Int) × List (Int × Int × Int) × List Int))) (Prod.fst x_1 ++ r, ())) ∧
          ∀ (x : List (List Int) × Unit), I r x → Q (Prod.fst x)
theorem v30 (l : List (Int × Int × Int)) (f : Int × Int × Int) (Q : List (List Int) → Prop) : V30 l f Q = vcFunc (S1 [(63, f63_ct), (64, f64_ct)] [] [] []) f30_ct.own f30_ct.fresh f30_an Try.f30 (bodyOf Try.f30) f30_ct.A f30_ct.C f30_ct.R (l, f, ()) () Q := by kernel_rfl

def V12 (l : List (Int × Int × Int)) (f : Int × Int × Int) (Q : Int × Int × Unit → Prop) : Prop :=
  f29_wp (l, (Prod.fst f, Prod.fst (Prod.snd f), Prod.snd (Prod.snd f)), ()) () fun (r : Int) ↦
    cnd (r != (0 : Int)) (Q ((0 : Int), r, ()))
      (f30_wp (l, (Prod.fst f, Prod.fst (Prod.snd f), Prod.snd (Prod.snd f)), ()) () fun (r : List (List Int)) ↦
        List.length r ≤ (9223372036854775807 : Nat) → Q ((↑(List.length r) : Int), (0 : Int), ()))
theorem v12 (l : List (Int × Int × Int)) (f : Int × Int × Int) (Q : Int × Int × Unit → Prop) : V12 l f Q = vcFunc (S1 [(29, f29_ct), (30, f30_ct)] [] [] []) f12_ct.own f12_ct.fresh no_an Try.f12 (bodyOf Try.f12) f12_ct.A f12_ct.C f12_ct.R (l, f, ()) () Q := by kernel_rfl

def V36 (l : Int × Int) (Q : Bool → Prop) : Prop :=
  f37_wp ((2 : Int), (10 : Int), Prod.fst l :: ([] : List Int), ()) () fun (r : Bool) ↦
    cnd r (f37_wp ((0 : Int), Prod.fst l, Prod.snd l :: ([] : List Int), ()) () fun (r : Bool) ↦ Q r) (Q false)
theorem v36 (l : Int × Int) (Q : Bool → Prop) : V36 l Q = vcFunc (S1 [(37, f37_ct)] [] [] []) f36_ct.own f36_ct.fresh no_an Try.f36 (bodyOf Try.f36) f36_ct.A f36_ct.C f36_ct.R l () Q := by kernel_rfl

def V38 (p : Int × Int) (n : Int) (Q : Int → Prop) : Prop :=
  Prod.fst p ≠ (0 : Int) ∧
    Prod.fst p ≠ (0 : Int) ∧
      Q
        (IntKind.wrap IntKind.i64
          (IntKind.wrap IntKind.i64 (IntKind.wrap IntKind.i64 (Int.tdiv n (Prod.fst p)) * Prod.snd p) + mnI (Int.tmod n (Prod.fst p)) (Prod.snd p)))
theorem v38 (p : Int × Int) (n : Int) (Q : Int → Prop) : V38 p n Q = vcFunc (S1 [] [] [] []) f38_ct.own f38_ct.fresh no_an Try.f38 (bodyOf Try.f38) f38_ct.A f38_ct.C f38_ct.R (p, n, ()) () Q := by kernel_rfl

def V39 (n : Int) (l : Int × Int) (w : Int) (Q : Bool → Prop) : Prop :=
  ∃ (r : Int), (f38_wp ((Prod.fst l, Prod.snd l), n, ()) () fun (r' : Int) ↦ r' = r) ∧ Q (decide (IntKind.wrap IntKind.i64 (n - r) < w))
theorem v39 (n : Int) (l : Int × Int) (w : Int) (Q : Bool → Prop) : V39 n l w Q = vcFunc (S1 [(38, f38_ct)] [] [] []) f39_ct.own f39_ct.fresh no_an Try.f39 (bodyOf Try.f39) f39_ct.A f39_ct.C f39_ct.R n (l, w, ()) Q := by kernel_rfl

def V19 (l : Int × Int) (want : Int) (Q : Int × Int × Unit → Prop) : Prop :=
  f36_wp (Prod.fst l, Prod.snd l) () fun (r : Bool) ↦
    cnd (!r) (Q ((0 : Int), (2 : Int), ()))
      (f37_wp ((0 : Int), (1000000 : Int), want :: ([] : List Int), ()) () fun (r : Bool) ↦
        cnd (!r) (Q ((0 : Int), (3 : Int), ()))
          (f39_wp (1000000 : Int) ((Prod.fst l, Prod.snd l), want, ()) fun (r : Bool) ↦
            cnd r (Q ((0 : Int), (7 : Int), ()))
              (∃ (I : Int → Int → Prop),
                ∃ (μ : Int → Int → Nat),
                  I (0 : Int) (1000000 : Int) ∧
                    ∀ (x x_1 : Int),
                      I x x_1 →
                        cnd (decide (x < x_1))
                          ((2 : Int) ≠ (0 : Int) ∧
                            f39_wp (IntKind.wrap IntKind.i64 (Int.tdiv (IntKind.wrap IntKind.i64 (x + x_1)) (2 : Int)))
                              ((Prod.fst l, Prod.snd l), want, ()) fun (r : Bool) ↦
                              cnd r
                                (I
                                    (IntKind.wrap IntKind.i64
                                      (IntKind.wrap IntKind.i64 (Int.tdiv (IntKind.wrap IntKind.i64 (x + x_1)) (2 : Int)) + (1 : Int)))
                                    x_1 ∧
                                  μ
                                      (IntKind.wrap IntKind.i64
                                        (IntKind.wrap IntKind.i64 (Int.tdiv (IntKind.wrap IntKind.i64 (x + x_1)) (2 : Int)) + (1 : Int)))
                                      x_1 <
                                    μ x x_1)
                                (I x (IntKind.wrap IntKind.i64 (Int.tdiv (IntKind.wrap IntKind.i64 (x + x_1)) (2 : Int))) ∧
                                  μ x (IntKind.wrap IntKind.i64 (Int.tdiv (IntKind.wrap IntKind.i64 (x + x_1)) (2 : Int))) < μ x x_1))
                          (Q (x, (0 : Int), ())))))
theorem v19 (l : Int × Int) (want : Int) (Q : Int × Int × Unit → Prop) : V19 l want Q = vcFunc (S1 [(36, f36_ct), (37, f37_ct), (39, f39_ct)] [] [] []) f19_ct.own f19_ct.fresh f19_an Try.f19 (bodyOf Try.f19) f19_ct.A f19_ct.C f19_ct.R (l, want, ()) () Q := by kernel_rfl

def V20 (Q : Bool → Prop) : Prop :=
  f12_wp
    (((0 : Int), (1 : Int), (100 : Int)) ::
        ((0 : Int), (2 : Int), (130 : Int)) ::
          ((0 : Int), (3 : Int), (104 : Int)) :: ((0 : Int), (4 : Int), (102 : Int)) :: ([] : List (Int × Int × Int)),
      ((2 : Int), (1 : Int), (6 : Int)), ())
    () fun (r : Int × Int × Unit) ↦
    f19_wp (((10 : Int), (1 : Int)), (22 : Int), ()) () fun (r_1 : Int × Int × Unit) ↦
      cnd (Prod.fst (Prod.snd r) == (0 : Int))
        (cnd (Prod.fst (Prod.snd r_1) == (0 : Int)) (cnd (Prod.fst r == (1 : Int)) (Q (Prod.fst r_1 == (25 : Int))) (Q false)) (Q false)) (Q false)
theorem v20 (Q : Bool → Prop) : V20 Q = vcFunc (S1 [(12, f12_ct), (19, f19_ct)] [] [] []) f20_ct.own f20_ct.fresh no_an Try.f20 (bodyOf Try.f20) f20_ct.A f20_ct.C f20_ct.R () () Q := by kernel_rfl

def V13 (t : Int) (many : Int) (thick : Int) (Q : List (Int × Int × Int) → Prop) : Prop :=
  ∃ (I : Int → List (Int × Int × Int) → Prop),
    ∃ (μ : Int → List (Int × Int × Int) → Nat),
      I (0 : Int) ([] : List (Int × Int × Int)) ∧
        ∀ (x : Int) (x_1 : List (Int × Int × Int)),
          I x x_1 →
            cnd (decide (x < many))
              ((List.length x_1 + List.length ((t, IntKind.wrap IntKind.i64 ((1 : Int) + x), thick) :: ([] : List (Int × Int × Int)))) * (24 : Nat) ≤
                  (140737488355328 : Nat) ∧
                I (IntKind.wrap IntKind.i64 (x + (1 : Int)))
                    (x_1 ++ (t, IntKind.wrap IntKind.i64 ((1 : Int) + x), thick) :: ([] : List (Int × Int × Int))) ∧
                  μ (IntKind.wrap IntKind.i64 (x + (1 : Int)))
                      (x_1 ++ (t, IntKind.wrap IntKind.i64 ((1 : Int) + x), thick) :: ([] : List (Int × Int × Int))) <
                    μ x x_1)
              (Q x_1)
theorem v13 (t : Int) (many : Int) (thick : Int) (Q : List (Int × Int × Int) → Prop) : V13 t many thick Q = vcFunc (S1 [] [] [] []) f13_ct.own f13_ct.fresh f13_an Try.f13 (bodyOf Try.f13) f13_ct.A f13_ct.C f13_ct.R (t, many, thick, ()) () Q := by kernel_rfl

end Go.Proofs.Tq
set_option linter.unusedVariables false
namespace Go.GX
variable [Inhabited BaseD]
open Go.RowKit Go.Shelf Go.Proofs

def fullGo (m : Nat) : Nat → List Rec → Bool
  | _, [] => true
  | i, x :: r => (Nat.blt i m || Nat.beq x.anc (2 ^ i - 1)) && fullGo m (i + 1) r

def fullFrom (m : Nat) (ops : List Oper) : Bool := edgesAll 0 ops && fullGo m 0 (ancRecs ops [])

theorem fullGo_spec (m : Nat) (l : List Rec) : ∀ (i : Nat), fullGo m i l = true → ∀ j x, l[j]? = some x → m ≤ i + j → x.anc = 2 ^ (i + j) - 1 := by
  induction l with
  | nil => intro i h j o ho; simp at ho
  | cons x r ih =>
    intro i h j x' hx hm
    simp only [fullGo, Bool.and_eq_true, Bool.or_eq_true] at h
    cases j with
    | zero =>
      simp only [List.getElem?_cons_zero, Option.some.injEq] at hx
      subst hx
      rcases h.1 with h1 | h1
      · have : i < m := by simpa [Nat.blt_eq] using h1
        omega
      · exact Nat.eq_of_beq_eq_true h1
    | succ j =>
      have := ih (i + 1) h.2 j x' (by simpa using hx) (by omega)
      rwa [show i + 1 + j = i + (j + 1) by omega] at this

theorem full_ready {all : List Oper} {D : Nat → Bool} {m : Nat} (hf : fullFrom m all = true) (hc : ClosedE all D) {i : Nat} {o : Oper} (hm : m ≤ i) (ho : all[i]? = some o) (hr : ∀ e, e ∈ o.after.toList → Region.binds .any e = true → D e.on = true) : ∀ j, j < i → D j = true := by
  intro j hj
  simp only [fullFrom, Bool.and_eq_true] at hf
  obtain ⟨rs', h1, h2, h3⟩ := ancRecs_at all [] i o ho
  simp only [List.length_nil, Nat.zero_add] at h1 h2 h3
  have ha := fullGo_spec m _ 0 hf.2 i _ h1 (by omega)
  simp only [Nat.zero_add] at ha
  have hb : Nat.testBit (ancOf rs' o) j = true := by rw [ha, Nat.testBit_two_pow_sub_one]; simpa using hj
  obtain ⟨e, he, hbd, hcase⟩ := ancOf_spec hb
  have hon := hr e he hbd
  rcases hcase with rfl | ⟨y, hy, hyi⟩
  · exact hon
  · have hel : e.on < i := by rw [← h2]; exact (List.getElem?_eq_some_iff.1 hy).1
    exact ancRecs_closed hc e.on y (by rw [← h3 _ hel]; exact hy) hon j hyi

section
variable {P : Program} {glb : Nat → Option GV} {Bk X0 : Nat → Prop} {w0 : World} {st0 : St} {ρ0 : Lab} {S : Stat} {lab : Nat} {F : Fence} {n : Nat} {all : List Oper} {es : List Ef}

theorem any_tail {m : Nat} (hfull : fullFrom m all = true) {Q : Exit → Act → World → Prop} : ∀ (d i : Nat) (fuel : Nat) (listed : Array Bool) (a : Act) (W : World), all.length = i + d → d ≤ fuel → m ≤ i → listed.size = all.length → (∀ k, k < all.length → listed.getD k false = decide (k < i)) →
    wpListIn F n P all.toArray Q (all.drop i) a W → wpAnyIn F n P .any all.toArray Q fuel listed a W := by
  have none : ∀ (i : Nat) (listed : Array Bool), all.length = i → listed.size = all.length → (∀ k, k < all.length → listed.getD k false = decide (k < i)) → Region.ready .any all.toArray listed = [] := by
    intro i listed hl hsz hli
    cases hr : Region.ready .any all.toArray listed with
    | nil => rfl
    | cons j r =>
      obtain ⟨o, h1, h2, h3, _⟩ := ready_lt (i := j) (by rw [hr]; exact List.mem_cons_self)
      rw [getD_tf _ _ (by omega), hli j h2] at h3
      simp at h3
      omega
  intro d
  induction d with
  | zero =>
    intro i fuel listed a W hl hfu hm hsz hli h
    rw [List.drop_of_length_le (by omega)] at h
    have hn := none i listed (by omega) hsz hli
    cases fuel with
    | zero => exact ⟨hn, h⟩
    | succ fuel => exact ⟨fun _ => h, fun j hj => by rw [hn] at hj; cases hj⟩
  | succ d ih =>
    intro i fuel listed a W hl hfu hm hsz hli h
    obtain ⟨fuel, rfl⟩ : ∃ f, fuel = f + 1 := ⟨fuel - 1, by omega⟩
    have hlt : i < all.length := by omega
    rw [List.drop_eq_getElem_cons hlt] at h
    have hf := hfull
    simp only [fullFrom, Bool.and_eq_true] at hf
    have hin : i ∈ Region.ready .any all.toArray listed := by
      refine mem_ready.2 ⟨by rw [getD_tf _ _ (by omega), hli i hlt]; simp, all[i], by simp, fun e he hb => ?_⟩
      have hedge := edgesAll_spec all 0 hf.1 i _ (List.getElem?_eq_getElem hlt)
      simp only [edgesOK, List.all_eq_true] at hedge
      have := hedge e (by simpa using he)
      rw [hb] at this
      have hlt2 : e.on < i := by simpa [Nat.blt_eq] using this
      rw [hli e.on (by omega)]
      simpa using hlt2
    refine ⟨fun hr => (by rw [hr] at hin; cases hin), fun j hj => ?_⟩
    obtain ⟨o, h1, h2, h3, h4⟩ := ready_lt hj
    rw [getD_tf _ _ (by omega), hli j h2] at h3
    have hji : i ≤ j := by simpa using h3
    have hc : ClosedE all (fun k => listed.getD k false) := by
      intro k o hk hd e he hb
      have hklt := (List.getElem?_eq_some_iff.1 hk).1
      replace hd : listed.getD k false = true := hd
      show listed.getD e.on false = true
      rw [hli k hklt] at hd
      have hki : k < i := by simpa using hd
      have hedge := edgesAll_spec all 0 hf.1 k o hk
      simp only [edgesOK, List.all_eq_true] at hedge
      have := hedge e he
      rw [hb] at this
      have hlt2 : e.on < k := by simpa [Nat.blt_eq] using this
      rw [hli e.on (by omega)]
      simp; omega
    have : j = i := by
      by_cases hji2 : j = i
      · exact hji2
      · have := full_ready hfull hc (by omega) h1 h4 i (by omega)
        replace this : listed.getD i false = true := this
        rw [hli i hlt] at this
        simp at this
    subst this
    unfold wpOpIn
    have hgo : all.toArray[j]? = some all[j] := by simp
    rw [hgo]
    simp only [wpListIn] at h ⊢
    have next : ∀ a' W', wpListIn F n P all.toArray Q (all.drop (j + 1)) a' W' → wpAnyIn F n P .any all.toArray Q fuel (listed.setIfInBounds j true) a' W' := fun a' W' h' =>
      ih (j + 1) fuel _ a' W' (by omega) (by omega) (by omega) (by simpa using hsz) (fun k hk => by
        by_cases hkj : k = j
        · subst hkj; simp [hsz, hk]
        · have := getD_set_ne (listed := listed) false (Ne.symm hkj)
          rw [this, hli k hk]
          by_cases hkj2 : k < j
          · simp [hkj2]; omega
          · simp [hkj2]; omega) h'
    split at h
    · rename_i hw
      rw [if_pos hw]
      exact Oper.wpIn_mono next h
    · rename_i hw
      rw [if_neg hw]
      exact ⟨h.1, next _ _ h.2⟩

theorem any_then (hF : Wide F P) (hS : StatOK P S) (hct : CtOK P glb S) (hg : S.glb = glb) {m : Nat} (hf : Facts S all lab none st0 es) (hlen : es.length = m) (hm : m ≤ all.length) (hfull : fullFrom m all = true) {Q : Exit → Act → World → Prop}
    (hQ : ∀ a W, InvD P glb Bk X0 w0 es st0 ρ0 (fun k => decide (k < m)) a W → wpListIn F n P all.toArray Q (all.drop m) a W) : ∀ (fuel : Nat) (listed : Array Bool) (a : Act) (W : World), listed.size = all.length → (∀ k, k < all.length → m ≤ k → listed.getD k false = false) →
    (List.range all.length).countP (fun k => !listed.getD k false) ≤ fuel → InvD P glb Bk X0 w0 es st0 ρ0 (fun k => listed.getD k false) a W → Closed es (fun k => listed.getD k false) → ClosedE all (fun k => listed.getD k false) → wpAnyIn F n P .any all.toArray Q fuel listed a W := by
  have hfe := hfull
  simp only [fullFrom, Bool.and_eq_true] at hfe
  have lis : ∀ (listed : Array Bool), listed.size = all.length → (∀ k, k < all.length → m ≤ k → listed.getD k false = false) → (∀ k, k < m → listed.getD k false = true) → ∀ k, listed.getD k false = decide (k < m) := by
    intro listed hsz h1 h2 k
    by_cases hk : k < m
    · rw [h2 k hk]; simp [hk]
    · by_cases hkl : k < all.length
      · rw [h1 k hkl (by omega)]; simp [hk]
      · simp [hk, Array.getElem?_eq_none (by omega : listed.size ≤ k)]
  have cnt : ∀ (listed : Array Bool), (∀ k, listed.getD k false = decide (k < m)) → all.length - m ≤ (List.range all.length).countP (fun k => !listed.getD k false) := by
    intro listed h
    have e : (fun k => !listed.getD k false) = fun k => decide (m ≤ k) := by funext k; rw [h k]; by_cases hk : k < m <;> simp [hk] <;> omega
    rw [e]
    have : ∀ n, n - m ≤ (List.range n).countP (fun k => decide (m ≤ k)) := by
      intro n
      induction n with
      | zero => simp
      | succ n ih => rw [List.range_succ, List.countP_append]; by_cases hk : m ≤ n <;> simp [hk] <;> omega
    exact this _
  intro fuel
  induction fuel with
  | zero =>
    intro listed a W hsz hlo hcount hinv hcl hce
    have hall : ∀ k, k < all.length → listed.getD k false = true := by
      intro k hk
      have h0 : (List.range all.length).countP (fun k => !listed.getD k false) = 0 := by omega
      have := List.countP_eq_zero.1 h0 k (List.mem_range.2 hk)
      simpa using this
    have hml : m = all.length := by
      rcases Nat.lt_or_ge m all.length with h | h
      · have h1 := hlo m h (Nat.le_refl _)
        rw [hall m h] at h1; cases h1
      · omega
    have hlis := lis listed hsz hlo (fun k hk => hall k (by omega))
    refine any_tail hfull 0 m 0 listed a W (by omega) (Nat.le_refl _) (Nat.le_refl _) hsz (fun k _ => hlis k) (hQ a W ?_)
    have : (fun k => listed.getD k false) = fun k => decide (k < m) := funext hlis
    rwa [this] at hinv
  | succ fuel ih =>
    intro listed a W hsz hlo hcount hinv hcl hce
    by_cases hdone : ∀ k, k < m → listed.getD k false = true
    · have hlis := lis listed hsz hlo hdone
      refine any_tail hfull (all.length - m) m (fuel + 1) listed a W (by omega) (Nat.le_trans (cnt listed hlis) hcount) (Nat.le_refl _) hsz (fun k _ => hlis k) (hQ a W ?_)
      have : (fun k => listed.getD k false) = fun k => decide (k < m) := funext hlis
      rwa [this] at hinv
    · have hex : ∃ k, k < m ∧ listed.getD k false = false := by
        refine Classical.byContradiction fun hno => hdone fun k hk => ?_
        cases hq : listed.getD k false with
        | true => rfl
        | false => exact absurd ⟨k, hk, hq⟩ hno
      obtain ⟨k0, hk0, hk1⟩ := hex
      refine ⟨fun hr => ?_, fun i hi => ?_⟩
      · exfalso

        have : ∀ k, k < m → listed.getD k false = true := by
          intro k
          induction k using Nat.strongRecOn with
          | _ k ihk =>
            intro hk
            cases hd : listed.getD k false with
            | true => rfl
            | false =>
              exfalso
              have hek : all[k]? = some all[k] := List.getElem?_eq_getElem (by omega)
              have : k ∈ Region.ready .any all.toArray listed := by
                refine mem_ready.2 ⟨by rw [getD_tf listed k (by omega)]; exact hd, all[k], by simp, fun ed hed hb => ?_⟩
                have hedge := edgesAll_spec all 0 hfe.1 k _ hek
                simp only [edgesOK, List.all_eq_true] at hedge
                have := hedge ed (by simpa using hed)
                rw [hb] at this
                have hlt : ed.on < k := by simpa [Nat.blt_eq] using this
                exact ihk ed.on hlt (by omega)
              rw [hr] at this
              simp at this
        rw [this k0 hk0] at hk1; cases hk1
      · obtain ⟨o, h2, hlt, h1, h3⟩ := ready_lt hi
        have him : i < m := by
          rcases Nat.lt_or_ge i m with h | h
          · exact h
          · have := full_ready hfull hce h h2 h3 k0 (by omega)
            rw [hk1] at this; cases this
        have hd : listed.getD i false = false := by rw [← getD_tf listed i (by omega)]; exact h1
        have hset : (listed.setIfInBounds i true).getD i false = true := by simp [hsz, hlt]
        refine any_step hF hS hct hg hf (by omega) hcl (i := i) (D' := fun k => (listed.setIfInBounds i true).getD k false) (List.getElem?_eq_getElem (by omega)) h2 (fun hh => by cases hh) hd h3 hset (fun k hk => getD_set_ne false (Ne.symm hk)) (fun a' W' hinv' hcl' => ?_) hinv
        refine ih _ a' W' (by simpa using hsz) (fun k hk hmk => by rw [getD_set_ne false (by omega : i ≠ k)]; exact hlo k hk hmk) ?_ hinv' hcl' ?_
        · have hlt2 : (List.range all.length).countP (fun k => !(listed.setIfInBounds i true).getD k false) < (List.range all.length).countP (fun k => !listed.getD k false) := by
            refine countP_lt (fun x hx => ?_) _ i (List.mem_range.2 hlt) (by rw [hd]; rfl) (by rw [hset]; rfl)
            cases hq : listed.getD x false with
            | false => rfl
            | true => rw [getD_set_true hq] at hx; cases hx
          omega
        · intro k ok hk hdk e he hb
          by_cases hki : k = i
          · subst hki
            rw [h2] at hk; cases hk
            exact getD_set_true (h3 e he hb)
          · have hdk' : listed.getD k false = true := by
              have := getD_set_ne (listed := listed) false (Ne.symm hki)
              rw [← this]; exact hdk
            exact getD_set_true (hce k ok hk hdk' e he hb)

theorem vcAny_then (hF : Wide F P) (hS : StatOK P S) (hct : CtOK P glb S) (hg : S.glb = glb) (id : Nat) (ops : Array Oper) (lab m : Nat) (K : St → Prop) (Q : Exit → Act → World → Prop) (wr : List Nat)
    (hwr : ∀ (j : Nat) o d, ops.toList[j]? = some o → o.dst = some d → d ∈ wr) {a : Act} {W : World} (mt : Mt P glb Bk X0 w0 st0 ρ0 a W) (hm : m ≤ ops.toList.length) (hfull : fullFrom m ops.toList = true) (h : vcAny S ops.toList lab (ops.toList.take m) 0 [] st0 K)
    (hQ : ∀ a W, PostR P glb Bk X0 w0 st0 ρ0 wr K a W → wpListIn F n P ops Q (ops.toList.drop m) a W) : (Code.region id ops true).wpIn F n P Q a W := by
  obtain ⟨es, hlen, hf, hk⟩ := text_run S ops.toList lab none K st0 (ops.toList.take m) 0 [] st0 rfl (fun j x hx => by
      rw [Nat.zero_add]
      rw [List.getElem?_take] at hx
      split at hx
      · exact hx
      · cases hx) (fun i e he => by simp at he) rfl h
  rw [Nat.zero_add, List.length_take, Nat.min_eq_left hm] at hlen
  refine wpIn_region_any hS.mixed ?_
  have m1 : Mt P glb Bk X0 w0 st0 ρ0 a { W with drawn := W.drawn + 1 } := mt.below ⟨rfl, rfl, rfl, Nat.le_refl _, fun _ _ => rfl⟩
  have hsz : ops.size = ops.toList.length := by simp
  have noD : ∀ k, (Array.replicate ops.size false).getD k false = false := fun k => by simp only [Array.getD_eq_getD_getElem?, Array.getElem?_replicate]; split <;> rfl
  have := any_then (Bk := Bk) (X0 := X0) (w0 := w0) (ρ0 := ρ0) (n := n) hF hS hct hg hf hlen hm hfull (Q := Q) (fun a' W' hinv => ?_) ops.size (Array.replicate ops.size false) a { W with drawn := W.drawn + 1 } (by simp) (fun k _ _ => noD k) ?_ ?_ ?_ ?_
  · simpa using this
  · obtain ⟨ρ', dom, hle', m', hdom⟩ := hinv
    have hall : appD (fun k => decide (k < m)) es 0 st0 = allE es st0 := appD_all es 0 st0 (fun k hk => by rw [Nat.zero_add]; simp only [decide_eq_true_eq]; omega)
    have fin := hQ a' W' ⟨allE es st0, ρ', hk, ⟨?_, hle'⟩, m'.same ?_ (fun t => ?_) (fun l => ?_) (fun l v hv => ?_) ?_⟩
    · simpa using fin
    · refine allE_frm wr es st0 (fun e he d hd => ?_)
      obtain ⟨i, hi⟩ := List.getElem?_of_mem he
      obtain ⟨o, fe, _, _⟩ := hf i e hi
      exact hwr i o d fe.op (by rw [← fe.wr]; exact hd)
    · rw [allE_n]; rfl
    · rw [← hall]; rfl
    · rw [canon_look, hall]
    · refine (allE_dom es st0).2 ?_
      rcases hdom l (m'.dom l v hv) with h | ⟨k, e, he, _, h⟩
      · exact .inl h
      · exact .inr ⟨e, List.mem_of_getElem? he, h⟩
    · exact allE_stamp es st0 mt.stamp
  · exact Nat.le_trans List.countP_le_length (by simp)
  · refine ⟨ρ0, st0.dom, ρ0.le_refl, m1.same rfl (fun t => ?_) (fun l => ?_) (fun l v hv => mt.dom l v hv) (fun l he s hh => ?_), fun l hl => .inl hl⟩
    · show (appD _ es 0 st0).tm t = _
      rw [appD_none es 0 st0 noD]
    · rw [canon_look, appD_none es 0 st0 noD]
    · have : ((appD (fun k => (Array.replicate ops.size false).getD k false) es 0 st0).look l).map (fun h => (h, 0)) = some (he, s) := hh
      cases hq : (appD (fun k => (Array.replicate ops.size false).getD k false) es 0 st0).look l with
      | none => rw [hq] at this; cases this
      | some x => rw [hq] at this; cases this; exact Nat.le_refl _
  · intro k e he hd
    exact absurd ((noD k).symm.trans hd) (by decide)
  · intro k o hk hd
    exact absurd ((noD k).symm.trans hd) (by decide)
end
end Go.GX
set_option linter.unusedVariables false
namespace Go.GX
variable [Inhabited BaseD]
open Go.RowKit Go.Shelf Go.Proofs

structure YS (α : Type) where
  S : Stat
  isY : Nat → Bool
  yop : St → List α → Oper → (List α → List (Nat × Option HE) → Prop) → Prop
  fst : Nat → Nat
  gv : Bool := false

section
variable {α : Type} (Y : YS α)

def yStep (st : St) (lab : Nat) (o : Oper) (g : List α) (s : Bool) (k : SV → List (Nat × Option HE) → List α → Bool → Prop) : Prop :=
  match Y.isY lab with
  | true => chk (!s && noLn st.look st.dom) (Y.yop st g o fun g' u => k (boolSV true) u g' false ∧ k (boolSV false) u g' true)
  | false => sem Y.S false st lab o fun sv u => k sv u g s

def yOps (all : List Oper) (lab : Nat) : List Oper → Nat → St → List α → Bool → (St → List α → Bool → Prop) → Prop
  | [], _, st, g, s, K => K st g s
  | o :: rest, i, st, g, s, K =>
    chk (freshL (lab + i) st.dom && dstOK st.n o.dst)
    (match o.guard with
    | none => yStep Y st (lab + i) o g s fun sv u g s => yOps all lab rest (i + 1) ((st.upds u).put o.dst sv) g s K
    | some (j, want) => match undS st all j with
      | some _ => yOps all lab rest (i + 1) (st.put o.dst (.tup [])) g s K
      | none => yieldS st all j fun d b =>
        gdS b want (yStep Y (st.put (some d) (boolSV want)) (lab + i) o g s fun sv u g s => yOps all lab rest (i + 1) (((st.put (some d) (boolSV want)).upds u).put o.dst sv) g s K)
          (yOps all lab rest (i + 1) ((st.put (some d) (boolSV (!want))).put o.dst (.tup [])) g s K))

def vcY (an : Nat → Items) : Code → St → List α → Bool → (Xt → St → List α → Bool → Prop) → Prop
  | .skip, st, g, s, K => K .norm st g s
  | .region id ops false, st, g, s, K => yOps Y ops.toList (id * 100) ops.toList 0 st g s (K .norm)
  | .region id ops true, st, g, s, K => chk (!Y.gv && Nat.ble (Y.fst id) ops.toList.length && fullFrom (Y.fst id) ops.toList) (vcAny Y.S ops.toList (id * 100) (ops.toList.take (Y.fst id)) 0 [] st fun st =>
      yOps Y ops.toList (id * 100) (ops.toList.drop (Y.fst id)) (Y.fst id) st g s (K .norm))
  | .seq a b, st, g, s, K => vcY an a st g s fun x st' g s => match x with
    | .norm => vcY an b st' g s K
    | .exit i => K (.exit i) st' g s
    | .ret => K .ret st' g s
  | .cond c t e, st, g, s, K => oneB (ev Y.S st 0 c) fun b => cnd b (vcY an t (known st c true) g s K) (vcY an e (known st c false) g s K)
  | .block id (.loop body), st, g, s, K =>
    chk (!s && nodupL (an id).labs && (an id).ok st (codeWrites body)) <| ∃ (I : List α → (an id).Cur Prop) (μ : (an id).Cur Nat), (an id).get Y.S ((an id).kept st) st [] (fun x => (an id).app (I g) x) ∧
      ∀ g, (an id).All fun x => (an id).app (I g) x → vcY an body ((an id).head st (codeWrites body) x) g false fun e st' g s => match e with
        | .norm => chk (!s && keptOK (an id).labs ((an id).head st (codeWrites body) x) st' ((an id).labs ++ st.dom)) <| (an id).get Y.S ((an id).kept st) st' [] fun x' => (an id).app (I g) x' ∧ (an id).app μ x' < (an id).app μ x
        | .exit i => cond (Nat.beq i id) (K .norm st' g s) (K (.exit i) st' g s)
        | .ret => K .ret st' g s
  | .block id (.rangeFunc f ps asg body), st, g, s, K => chk (!Y.gv) (vc Y.S an (.block id (.rangeFunc f ps asg body)) st fun x st' => K x st' g s)
  | .block id c, st, g, s, K => vcY an c st g s fun x st' g s => match x with
    | .norm => K .norm st' g s
    | .exit i => cond (Nat.beq i id) (K .norm st' g s) (K (.exit i) st' g s)
    | .ret => K .ret st' g s
  | .exit id, st, g, s, K => K (.exit id) st g s
  | .ret, st, g, s, K => K .ret st g s
  | _, _, _, _, _ => False
end

theorem Kept.trans {X : Nat → Prop} {W0 : World} {I I' : Nat → Prop} {A B C : World} (h : Kept X W0 I A B) (h' : Kept X W0 I' B C) (hi : ∀ k, I k → I' k) : Kept X W0 I A C where
  os := h'.os.trans h.os
  tape := h'.tape.trans h.tape
  output := h'.output.trans h.output
  size := Nat.le_trans h.size h'.size
  own := fun k hk hn => (h'.own k (hi k hk) (fun hm es c hc => by rw [h.own k hk hn] at hc; exact hn hm es c hc)).trans (h.own k hk hn)
  old := fun k hc hlt hx => by
    have e1 := h.old k hc hlt hx
    obtain ⟨cs, t, fr, hc⟩ := hc
    exact (h'.old k ⟨cs, t, fr, e1.trans hc⟩ hlt hx).trans e1
  memo := fun mm xs hp hg => h'.memo mm xs (hp.keep (fun k hc hx => by
      have hx : I k ∨ (k < W0.heap.size ∧ ¬ X k) := Classical.byContradiction hx
      rcases hx with hx | hx
      · exact h.own k hx (noMap_cells hc)
      · exact h.old k hc hx.1 hx.2) (fun k hx _ hn => hx fun hh => hn (hh.imp (hi k) id))) (h.memo mm xs hp hg)

structure Yt (P : Program) (α : Type) where
  gv : Bool
  vals : (Nat → Prop) → World → α → List Value → Prop
  X : Nat → Prop
  W0 : World
  n : Nat
  l : Nat
  xs : List α
  J : List α → (Nat → Prop) → (Nat → Prop) → World → Prop
  Jx : (Nat → Prop) → World → Prop
  jt : ∀ pre I E W I' E' W', J pre I E W → TurnE I E W I' E' W' → J pre I' E' W'
  jxt : ∀ I W I' W', Jx I W → Turned I W I' W' → Jx I' W'
  yd : ∀ pre x rest I E W vs, xs = pre ++ x :: rest → J pre I E W → (∀ k, E k → W0.heap.size ≤ k ∧ k < W.heap.size) → (∀ k, I k → E k) → W0.heap.size ≤ W.heap.size → vals (yVX gv X W0 I E W) W x vs →
      YieldAt Fence.wide n P l vs.toArray W fun e W' => (e = .returned (.bool true) ∧ J (pre ++ [x]) I E W' ∧ Kept X W0 E W W') ∨ (e = .returned (.bool false) ∧ Jx I W' ∧ Kept X W0 E W W')

section
variable {P : Program} {glb : Nat → Option GV} {α : Type}

def yBk (B0 I : Nat → Prop) (W : World) (k : Nat) : Prop := k < W.heap.size ∧ (¬ I k ∨ B0 k)
def yX (T : Yt P α) (I : Nat → Prop) (W : World) (k : Nat) : Prop := k < W.heap.size ∧ ¬ I k ∧ (T.W0.heap.size ≤ k ∨ T.X k)

def nowI (I : Nat → Prop) (Wl W : World) (k : Nat) : Prop := I k ∨ (Wl.heap.size ≤ k ∧ k < W.heap.size)

structure ItOK (glb : Nat → Option GV) (T : Yt P α) (B0 : Nat → Prop) (We : World) (g : List α) (s : Bool) (st : St) (ρ : Lab) (a : Act) (W : World) (I E : Nat → Prop) (Wl : World) : Prop where
  j : s = false → T.J g I E Wl
  jx : s = true → T.Jx I Wl
  b0 : ∀ k, B0 k → I k
  ie : ∀ k, I k → E k
  nd : T.gv = true → a.defers = []
  new : ∀ k, E k → B0 k ∨ We.heap.size ≤ k
  low : ∀ k, E k → T.W0.heap.size ≤ k ∧ k < Wl.heap.size
  sz : T.W0.heap.size ≤ Wl.heap.size
  kept : Kept T.X T.W0 B0 We Wl
  mt : Mt P glb (yBk B0 I Wl) (yX T E Wl) Wl st ρ a W

section
variable {T : Yt P α} {B0 I E : Nat → Prop} {We Wl W W' : World} {g : List α} {s : Bool} {st st' : St} {ρ ρ' : Lab} {a a' : Act}

theorem ItOK.go (h : ItOK glb T B0 We g s st ρ a W I E Wl) (m : Mt P glb (yBk B0 I Wl) (yX T E Wl) Wl st' ρ' a' W') (hd : T.gv = true → a'.defers = a.defers) : ItOK glb T B0 We g s st' ρ' a' W' I E Wl :=
  ⟨h.j, h.jx, h.b0, h.ie, fun hg => (hd hg).trans (h.nd hg), h.new, h.low, h.sz, h.kept, m⟩

theorem ItOK.turned0 (h : ItOK glb T B0 We g s st ρ a W I E Wl) : Turned I Wl (nowI I Wl W) W where
  os := h.mt.bel.os
  tape := h.mt.bel.tape
  output := h.mt.bel.output
  size := h.mt.bel.size
  keep := fun k hk hi => h.mt.bel.block k ⟨hk, .inl hi⟩
  memo := fun mm xs hp hg => h.mt.bel.memo mm xs (hp.mono fun k hx hc hn => hn ⟨cells_lt hc, .inl hx⟩) hg
  new := fun k hk => hk

theorem ItOK.turned (h : ItOK glb T B0 We g s st ρ a W I E Wl) : TurnE I E Wl (nowI I Wl W) (nowI E Wl W) W := ⟨h.turned0, fun k hk => .inl hk, fun k hk => hk⟩
theorem ItOK.ieNow (h : ItOK glb T B0 We g s st ρ a W I E Wl) : ∀ k, nowI I Wl W k → nowI E Wl W k := fun k hk => hk.imp (h.ie k) id

theorem ItOK.nowLow (h : ItOK glb T B0 We g s st ρ a W I E Wl) : ∀ k, nowI E Wl W k → T.W0.heap.size ≤ k ∧ k < W.heap.size := by
  rintro k (hk | hk)
  · exact ⟨(h.low k hk).1, Nat.lt_of_lt_of_le (h.low k hk).2 h.mt.bel.size⟩
  · exact ⟨Nat.le_trans h.sz hk.1, hk.2⟩

theorem ItOK.nowSz (h : ItOK glb T B0 We g s st ρ a W I E Wl) : T.W0.heap.size ≤ W.heap.size := Nat.le_trans h.sz h.mt.bel.size

theorem ItOK.ownNow (h : ItOK glb T B0 We g s st ρ a W I E Wl) {l : Nat} {he : HE} {q : Nat} {v : Value} {k : Nat} (h1 : st.hp l = some (he, q)) (h2 : ρ l = some v) (h3 : OwnB ρ he v k) (hl : he.isLn = false) : nowI I Wl W k ∧ ¬ B0 k := by
  have hnb := (h.mt.nb l he q v k h1 h2 h3).1 hl
  obtain ⟨v', hv', hok⟩ := h.mt.hps l he q h1
  rw [h2] at hv'; cases hv'
  have hlt := (hok.lt h3).2
  by_cases hk : k < Wl.heap.size
  · have : I k ∧ ¬ B0 k := ⟨Classical.byContradiction fun hi => hnb ⟨hk, .inl hi⟩, fun hb => hnb ⟨hk, .inr hb⟩⟩
    exact ⟨.inl this.1, this.2⟩
  · refine ⟨.inr ⟨by omega, hlt⟩, fun hb => ?_⟩
    have := (h.low k (h.ie k (h.b0 k hb))).2
    omega

theorem ItOK.keptW (h : ItOK glb T B0 We g s st ρ a W I E Wl) : Kept T.X T.W0 B0 Wl W :=
  have key : ∀ k, B0 k ∨ (k < T.W0.heap.size ∧ ¬ T.X k) → yBk B0 I Wl k := by
    rintro k (hb | hb)
    · exact ⟨(h.low k (h.ie k (h.b0 k hb))).2, .inr hb⟩
    · exact ⟨Nat.lt_of_lt_of_le hb.1 h.sz, .inl fun hi => by have := (h.low k (h.ie k hi)).1; omega⟩
  ⟨h.mt.bel.os, h.mt.bel.tape, h.mt.bel.output, h.mt.bel.size, fun k hb => h.mt.bel.block k (key k (.inl hb)), fun k hc hlt hx => h.mt.bel.block k (key k (.inr ⟨hlt, hx⟩)) (noMap_cells hc),
    fun mm xs hp hg => h.mt.bel.memo mm xs (hp.mono fun k hx _ hn => hx fun h => hn (key k h)) hg⟩

def yI (gv : Bool) (B0 : Nat → Prop) (st : St) (ρ : Lab) (I : Nat → Prop) (k : Nat) : Prop :=
  match gv with
  | false => I k
  | true => I k ∧ (OwnWr st ρ k ∨ B0 k)
theorem ItOK.after (h : ItOK glb T B0 We g s st ρ a W I E Wl) (hln : noLn st.look st.dom = true) {g' : List α} {s' : Bool} {I' E' : Nat → Prop} (hj : s' = false → T.J g' I' E' W') (hjx : s' = true → T.Jx I' W')
    (hmI : ∀ k, yI T.gv B0 st ρ (nowI I Wl W) k → I' k) (hie : ∀ k, I' k → E' k) (hmore : ∀ k, nowI E Wl W k → E' k) (hnew : ∀ k, E' k → nowI E Wl W k ∨ (W.heap.size ≤ k ∧ k < W'.heap.size)) (hk : Kept T.X T.W0 (nowI E Wl W) W W') : ItOK glb T B0 We g' s' st ρ a W' I' E' W' := by
  have m := h.mt
  have hlow := h.nowLow
  have hlow' : ∀ k, E' k → T.W0.heap.size ≤ k ∧ k < W'.heap.size := by
    intro k hk'
    rcases hnew k hk' with h1 | h1
    · exact ⟨(hlow k h1).1, Nat.lt_of_lt_of_le (hlow k h1).2 hk.size⟩
    · exact ⟨Nat.le_trans h.nowSz h1.1, h1.2⟩
  have noln : ∀ {l he q}, st.hp l = some (he, q) → he.isLn = false := by
    intro l he q hl
    obtain ⟨v, hv, _⟩ := m.hps l he q hl
    exact noLn_spec hln l (memL_iff.1 (m.dom l v hv)) he (by show (st.hp l).map (·.1) = some he; rw [hl]; rfl)
  have hown : ∀ {l he q v k}, st.hp l = some (he, q) → ρ l = some v → OwnB ρ he v k → nowI I Wl W k ∧ ¬ B0 k := fun h1 h2 h3 => h.ownNow h1 h2 h3 (noln h1)
  have hownI : ∀ {l he q v k}, st.hp l = some (he, q) → ρ l = some v → OwnB ρ he v k → I' k := fun {l he q v k} h1 h2 h3 => hmI k (by
    unfold yI
    split
    · exact (hown h1 h2 h3).1
    · exact ⟨(hown h1 h2 h3).1, .inl ⟨l, he, q, v, h1, h2, h3, noln h1⟩⟩)
  have hbI : ∀ k, B0 k → I' k := fun k hb => hmI k (by
    unfold yI
    split
    · exact .inl (h.b0 k hb)
    · exact ⟨.inl (h.b0 k hb), .inr hb⟩)

  have hWlW : Kept T.X T.W0 B0 Wl W := h.keptW
  have key : ∀ k, (∃ cs t fr, W.heap[k]? = some (.cells cs t fr)) → ¬ Xs st ρ (yX T E Wl) k → nowI E Wl W k ∨ (k < T.W0.heap.size ∧ ¬ T.X k) := by
    intro k hc hx
    by_cases hn : nowI E Wl W k
    · exact .inl hn
    · have hlt : k < W.heap.size := cells_lt hc
      have hkl : k < Wl.heap.size := by
        rcases Nat.lt_or_ge k Wl.heap.size with h1 | h1
        · exact h1
        · exact absurd (.inr ⟨h1, hlt⟩) hn
      have hno : ¬ (T.W0.heap.size ≤ k ∨ T.X k) := fun h2 => hx (.inl ⟨hkl, fun hi => hn (.inl hi), h2⟩)
      exact .inr ⟨Nat.lt_of_not_le fun h3 => hno (.inl h3), fun h3 => hno (.inr h3)⟩
  have ev : Evo (Xs st ρ (yX T E Wl)) W (Xs st ρ (yX T E' W')) W' := by
    refine ⟨hk.size, fun k hc hx => ?_, fun k hx hlt => ?_, ?_, fun mm xs hp hg => hk.memo mm xs (hp.mono fun k hx hc hno => hno (key k hc hx)) hg⟩
    · rcases key k hc hx with h1 | h1
      · exact hk.own k h1 (noMap_cells hc)
      · exact hk.old k hc h1.1 h1.2
    · rcases hx with ⟨h1, h2, h3⟩ | hx
      · have hn : ¬ nowI E Wl W k := fun hn => h2 (hmore k hn)
        have hkl : k < Wl.heap.size := by
          rcases Nat.lt_or_ge k Wl.heap.size with h1 | h1
          · exact h1
          · exact absurd (.inr ⟨h1, hlt⟩) hn
        exact .inl ⟨hkl, fun hi => hn (.inl hi), h3⟩
      · exact .inr hx
    · rintro k (hx | ⟨l, he, q, v, h1, h2, h3⟩)
      · exact hx.1
      · exact Nat.lt_of_lt_of_le (hlow k (h.ieNow k (hown h1 h2 h3).1)).2 hk.size
  refine ⟨hj, hjx, hbI, hie, h.nd, fun k hk' => ?_, hlow', Nat.le_trans h.nowSz hk.size, ?_, ?_⟩
  · rcases hnew k hk' with (h1 | h1) | h1
    · exact h.new k h1
    · exact .inr (Nat.le_trans h.kept.size h1.1)
    · exact .inr (Nat.le_trans (Nat.le_trans h.kept.size m.bel.size) h1.1)
  · exact (h.kept.trans hWlW fun _ h => h).trans hk fun k hb => .inl (h.ie k (h.b0 k hb))
  · refine ⟨m.size, ?_, fun t => (m.tms t).mono ρ.le_refl ev, fun l he q hl => ?_, m.dis, fun k hx => hx.1, fun k hb => hb.1, .refl _ _, fun l he q v k h1 h2 h3 => ⟨fun _ hb => ?_, fun hx => ?_⟩, m.glb.evo ev, m.dom, m.stamp⟩
    · obtain ⟨Ds, d1, d2, d3⟩ := m.dfr
      refine ⟨Ds, d1, d2, fun D hD => ?_⟩
      obtain ⟨g1, g2⟩ := d3 D hD
      have hlt := (Array.getElem?_eq_some_iff.1 g1).1
      have hn : nowI I Wl W D ∧ ¬ B0 D := by
        by_cases hkl : D < Wl.heap.size
        · exact ⟨.inl (Classical.byContradiction fun hi => g2 ⟨hkl, .inl hi⟩), fun hb => g2 ⟨hkl, .inr hb⟩⟩
        · exact ⟨.inr ⟨by omega, hlt⟩, fun hb => by have := (h.low D (h.ie D (h.b0 D hb))).2; omega⟩
      exact ⟨(hk.own D (h.ieNow D hn.1) (fun _ es c hc => by rw [g1] at hc; cases hc)).trans g1, fun hb => hb.2.elim (fun hi => hi (hmI D (by
        cases hgv : T.gv with
        | false => exact hn.1
        | true =>
          have := h.nd hgv
          rw [d1] at this
          cases Ds with
          | nil => cases hD
          | cons _ _ => cases this))) hn.2⟩
    · obtain ⟨v, hv, hok⟩ := m.hps l he q hl
      exact ⟨v, hv, hok.mono ρ.le_refl ev (fun k hk' => hk.own k (h.ieNow k (hown hl hv hk').1) (hok.noMap hk'))⟩
    · exact hb.2.elim (fun hi => hi (hownI h1 h2 h3)) (hown h1 h2 h3).2
    · exact hx.2.1 (hmore k (h.ieNow k (hown h1 h2 h3).1))
end

theorem put_defers (a : Act) (d : Option Nat) (v : Value) : (a.put d v).defers = a.defers := by cases d <;> rfl

def YR (T : Yt P α) (I E : Nat → Prop) (W : World) (k : List α → Prop) (e : Ending) (W' : World) : Prop :=
  ∃ b g' I' E', e = .returned (.bool b) ∧ k g' ∧ (b = true → T.J g' I' E' W') ∧ (b = false → T.Jx I' W') ∧ (∀ j, I j → I' j) ∧ (∀ j, I' j → E' j) ∧ (∀ j, E j → E' j) ∧ (∀ j, E' j → E j ∨ (W.heap.size ≤ j ∧ j < W'.heap.size)) ∧ Kept T.X T.W0 E W W'

def YOut (P : Program) (o : Oper) (a : Act) (W : World) (R : Ending → World → Prop) : Prop :=
  (∃ l f tmps asg body, (execOp a.eval o).run P W = .ok (.round l f tmps asg body) W ∧ RoundIn Fence.wide 0 P l f tmps asg body W R) ∨ (∃ f args, (execOp a.eval o).run P W = .ok (.enter f args) W ∧ Calls P f args W R)

structure YopOK (glb : Nat → Option GV) (T : Yt P α) (B0 : Nat → Prop) (We : World) (Y : YS α) : Prop where
  gv : Y.gv = T.gv
  ok : ∀ (st : St) (ρ : Lab) (a : Act) (W : World) (g : List α) (o : Oper) (k : List α → List (Nat × Option HE) → Prop) (I E : Nat → Prop) (Wl : World), ItOK glb T B0 We g false st ρ a W I E Wl → noLn st.look st.dom = true → T.J g (nowI I Wl W) (nowI E Wl W) W → Y.yop st g o k →
    ∃ u, noLn (st.upds u).look (st.upds u).dom = true ∧ ItOK glb T B0 We g false (st.upds u) ρ a W I E Wl ∧ YOut P o a W (YR T (yI T.gv B0 (st.upds u) ρ (nowI I Wl W)) (nowI E Wl W) W fun g' => k g' u) ∧ ∀ c, o.op ≠ .defer c

theorem round_any {m m' : Nat} {l : Nat} {f : FuncId} {tmps : Array Value} {assign body : Code} {w : World} {R : Ending → World → Prop} (h : RoundIn Fence.wide m P l f tmps assign body w R) : RoundIn Fence.wide m' P l f tmps assign body w R :=
  ⟨h.1, fun c cs _ => h.2 c cs (fun d h => by cases h)⟩

theorem YOut.wpIn {n : Nat} {o : Oper} {a : Act} {W : World} {R : Ending → World → Prop} {next : Act → World → Prop} {Q : Exit → Act → World → Prop} (hd : ∀ c, o.op ≠ .defer c)
    (h : YOut P o a W R) (hn : ∀ e w', R e w' → ∃ v, e = .returned v ∧ next (a.put o.dst v) w') : o.wpIn Fence.wide n P a W next Q := by
  refine ⟨fun f _ => trivial, ?_⟩
  rw [Oper.semAt_eq _ _ _ hd]
  rcases h with ⟨l, f, tmps, asg, body, h1, h2⟩ | ⟨f, args, h1, h2⟩
  · rw [h1]
    refine ⟨fun h => (by cases h), (round_any h2).mono ?_⟩
    intro e w' hr
    obtain ⟨v, rfl, h⟩ := hn e w' hr
    exact h
  · rw [h1]
    refine ⟨fun h => (by cases h), (callsIn_wide.2 h2).mono ?_⟩
    intro e w' hr
    obtain ⟨v, rfl, h⟩ := hn e w' hr
    exact h

section
variable {T : Yt P α} {B0 : Nat → Prop} {We : World} {Y : YS α}

def PostY (glb : Nat → Option GV) (T : Yt P α) (B0 : Nat → Prop) (We : World) (st : St) (ρ : Lab) (wr : List Nat) (K : Xt → St → List α → Bool → Prop) (e : Exit) (a : Act) (W : World) : Prop :=
  ∃ x st' ρ' g s I E Wl, e = x.ex ∧ K x st' g s ∧ (Frm st st' wr ∧ ρ.le ρ') ∧ ItOK glb T B0 We g s st' ρ' a W I E Wl

theorem yStep_ok {n : Nat} (hS : StatOK P Y.S) (hct : CtOK P glb Y.S) (hg : Y.S.glb = glb) (hy : YopOK glb T B0 We Y) {st : St} {ρ : Lab} {a : Act} {W : World} {g : List α} {s : Bool} {I E : Nat → Prop} {Wl : World} {lab : Nat} {o : Oper} {k : SV → List (Nat × Option HE) → List α → Bool → Prop}
    {next : Act → World → Prop} {Q : Exit → Act → World → Prop} (hfr : freshL lab st.dom = true) (h : ItOK glb T B0 We g s st ρ a W I E Wl) (hk : yStep Y st lab o g s k)
    (hn : ∀ sv u g' s' ρ' v W' I' E' Wl', k sv u g' s' → ρ.le ρ' → ItOK glb T B0 We g' s' (st.upds u) ρ' a W' I' E' Wl' → RepV P ρ' (Xs (st.upds u) ρ' (yX T E' Wl')) W' sv v → next (a.put o.dst v) W') : o.wpIn Fence.wide n P a W next Q := by
  unfold yStep at hk
  cases hi : Y.isY lab with
  | false =>
    rw [hi] at hk
    obtain ⟨h1, h2⟩ := sem_ok hS hct hg h.mt hfr hk
    refine h1.wpIn (Wide.wide P) h2 fun v w' hfit => ?_
    obtain ⟨sv, u, ρ', hk', hle, m', hv, _⟩ := hfit
    exact hn sv u g s ρ' v w' I E Wl hk' hle (h.go m' fun _ => rfl) hv
  | true =>
    rw [hi] at hk
    obtain ⟨hc, hk2⟩ := chk_iff.1 hk
    clear hk
    simp only [Bool.and_eq_true, Bool.not_eq_true'] at hc
    obtain ⟨hs, hln⟩ := hc
    subst hs
    obtain ⟨u, hln', h', h1, h2⟩ := hy.ok st ρ a W g o _ I E Wl h hln (T.jt _ _ _ _ _ _ _ (h.j rfl) h.turned) hk2
    refine h1.wpIn h2 fun e w' hr => ?_
    obtain ⟨b, g', I', E', rfl, ⟨k1, k2⟩, hj, hjx, hmI, hie, hmore, hnew, hkept⟩ := hr
    refine ⟨_, rfl, ?_⟩
    cases b with
    | true => exact hn (boolSV true) u g' false ρ (.bool true) w' I' E' w' k1 ρ.le_refl (h'.after hln' (fun _ => hj rfl) (fun h => by cases h) hmI hie hmore hnew hkept) (rep_bool true)
    | false => exact hn (boolSV false) u g' true ρ (.bool false) w' I' E' w' k2 ρ.le_refl (h'.after hln' (fun h => by cases h) (fun _ => hjx rfl) hmI hie hmore hnew hkept) (rep_bool false)

def PostRY (glb : Nat → Option GV) (T : Yt P α) (B0 : Nat → Prop) (We : World) (st : St) (ρ : Lab) (wr : List Nat) (K : St → List α → Bool → Prop) (a : Act) (W : World) : Prop :=
  ∃ st' ρ' g s I E Wl, K st' g s ∧ (Frm st st' wr ∧ ρ.le ρ') ∧ ItOK glb T B0 We g s st' ρ' a W I E Wl

theorem yOps_ok {n : Nat} (hS : StatOK P Y.S) (hct : CtOK P glb Y.S) (hg : Y.S.glb = glb) (hy : YopOK glb T B0 We Y) (all : List Oper) (lab : Nat) (K : St → List α → Bool → Prop) (Q : Exit → Act → World → Prop) (st0 : St) (ρ0 : Lab) (wr : List Nat)
    (hwr : ∀ (j : Nat) o d, all[j]? = some o → o.dst = some d → d ∈ wr) (hQ : ∀ a W, PostRY glb T B0 We st0 ρ0 wr K a W → Q .normal a W) :
    ∀ (rest : List Oper) (i : Nat) (st : St) (ρ : Lab) (a : Act) (W : World) (g : List α) (s : Bool) (I E : Nat → Prop) (Wl : World), (∀ j, rest[j]? = all[i + j]?) → Frm st0 st wr ∧ ρ0.le ρ → ItOK glb T B0 We g s st ρ a W I E Wl → yOps Y all lab rest i st g s K → wpListIn Fence.wide n P all.toArray Q rest a W
  | [], i, st, ρ, a, W, g, s, I, E, Wl, hr, hf, m, h => hQ a W ⟨st, ρ, g, s, I, E, Wl, h, hf, m⟩
  | o :: rest, i, st, ρ, a, W, g, s, I, E, Wl, hr, hf, m, h => by
    have hr' : ∀ j, rest[j]? = all[i + 1 + j]? := fun j => by have := hr (j + 1); rw [List.getElem?_cons_succ] at this; rw [this]; congr 1; omega
    have ho : all[i]? = some o := by have := hr 0; simpa using this.symm
    have hod : ∀ d, o.dst = some d → d ∈ wr := fun d hd => hwr i o d ho hd
    simp only [yOps] at h
    obtain ⟨hb, h⟩ := chk_iff.1 h
    simp only [Bool.and_eq_true, Bool.not_eq_true'] at hb
    obtain ⟨hfr, hdst⟩ := hb
    have ih := fun st ρ a W g s I E Wl hf m h => yOps_ok (n := n) hS hct hg hy all lab K Q st0 ρ0 wr hwr hQ rest (i + 1) st ρ a W g s I E Wl hr' hf m h
    simp only [wpListIn]
    cases hgd : o.guard with
    | none =>
      rw [hgd] at h
      rw [wanted_none hgd]
      simp only [if_true]
      refine yStep_ok hS hct hg hy hfr m h fun sv u g' s' ρ' v w' I' E' Wl' hk hle m' hv => ?_
      refine ih _ ρ' _ w' g' s' I' E' Wl' ?_ (m'.go (m'.mt.put o.dst sv v ?_ hv) fun _ => put_defers _ _ _) hk
      · exact ⟨(hf.1.trans (upds_frm wr u st)).trans (put_frm _ _ _ _ hod), hf.2.trans hle⟩
      · rw [(upds_frm wr u st).n]; exact hdst
    | some p =>
      obtain ⟨j, want⟩ := p
      rw [hgd] at h
      simp only at h
      cases hu : undS st all j with
      | some d =>
        rw [hu] at h
        obtain ⟨ht, hlt, oj, hoj, hojd⟩ := undS_ok hu
        have hrep := m.mt.tms d
        rw [ht] at hrep
        obtain ⟨vs, hvs, hnil⟩ := hrep
        have hnil : vs = [] := hnil
        subst hnil
        have : Region.wanted o (yielded all.toArray a.tmps) = false := by simp [Region.wanted, hgd, yielded_und hoj hojd hvs]
        rw [this]
        simp only [Bool.false_eq_true, if_false]
        refine ⟨fun f _ => trivial, ?_⟩
        refine ih _ ρ _ W g s I E Wl ?_ (m.go (m.mt.put o.dst (.tup []) undef hdst rep_und) fun _ => put_defers _ _ _) h
        exact ⟨hf.1.trans (put_frm _ _ _ _ hod), hf.2⟩
      | none =>
      rw [hu] at h
      simp only at h
      obtain ⟨d, b, hk, hval, hyd, oj, hoj, hojd⟩ := yieldS_ok m.mt h
      have hdw : d ∈ wr := hwr j oj d hoj hojd
      obtain ⟨k1, k2⟩ := gdS_iff.1 hk
      have hwant : Region.wanted o (yielded all.toArray a.tmps) = (some b == some want) := by simp [Region.wanted, hgd, hyd]
      have know : ∀ c : Bool, b = c → ItOK glb T B0 We g s (st.put (some d) (boolSV c)) ρ a W I E Wl := fun c hc => m.go (m.mt.know d _ (by rw [hval, hc]; exact rep_bool c)) fun _ => rfl
      have hfk : ∀ c : Bool, Frm st0 (st.put (some d) (boolSV c)) wr := fun c => hf.1.trans (put_frm _ _ _ _ (fun d' hd' => by cases hd'; exact hdw))
      by_cases hbw : b = want
      · have : Region.wanted o (yielded all.toArray a.tmps) = true := by rw [hwant, hbw]; simp
        rw [this]
        simp only [if_true]
        have m1 := know want hbw
        refine yStep_ok (st := st.put (some d) (boolSV want)) hS hct hg hy hfr m1 (k1 hbw) fun sv u g' s' ρ' v w' I' E' Wl' hk' hle m' hv => ?_
        refine ih _ ρ' _ w' g' s' I' E' Wl' ?_ (m'.go (m'.mt.put o.dst sv v ?_ hv) fun _ => put_defers _ _ _) hk'
        · exact ⟨((hfk want).trans (upds_frm wr u _)).trans (put_frm _ _ _ _ hod), hf.2.trans hle⟩
        · rw [(upds_frm wr u _).n]; exact hdst
      · have : Region.wanted o (yielded all.toArray a.tmps) = false := by
          rw [hwant]
          cases b <;> cases want <;> first | rfl | exact absurd rfl hbw
        rw [this]
        simp only [Bool.false_eq_true, if_false]
        refine ⟨fun f _ => trivial, ?_⟩
        have hbn : b = !want := by cases b <;> cases want <;> first | rfl | exact absurd rfl hbw
        have m2 := know (!want) hbn
        refine ih _ ρ _ W g s I E Wl ?_ (m2.go (m2.mt.put o.dst (.tup []) undef hdst rep_und) fun _ => put_defers _ _ _) (k2 hbw)
        exact ⟨(hfk (!want)).trans (put_frm _ _ _ _ hod), hf.2⟩

def YcOK (glb : Nat → Option GV) (T : Yt P α) (B0 : Nat → Prop) (We : World) (n : Nat) (Y : YS α) (an : Nat → Items) (c : Code) : Prop :=
  ∀ (st : St) (ρ : Lab) (a : Act) (W : World) (g : List α) (s : Bool) (I E : Nat → Prop) (Wl : World) (K : Xt → St → List α → Bool → Prop), ItOK glb T B0 We g s st ρ a W I E Wl → vcY Y an c st g s K → c.wpIn Fence.wide n P (PostY glb T B0 We st ρ (codeWrites c) K) a W

theorem vcY_block (an : Nat → Items) (id : Nat) (c : Code) {st : St} {g : List α} {s : Bool} (K : Xt → St → List α → Bool → Prop) (hc : ∀ b, c ≠ .loop b) (hc2 : ∀ f ps x y, c ≠ .rangeFunc f ps x y) : vcY Y an (.block id c) st g s K = vcY Y an c st g s fun x st' g s => match x with
    | .norm => K .norm st' g s
    | .exit i => cond (Nat.beq i id) (K .norm st' g s) (K (.exit i) st' g s)
    | .ret => K .ret st' g s := by
  cases c <;> first | rfl | exact absurd rfl (hc _) | exact absurd rfl (hc2 _ _ _ _)

theorem loopY_ok {n : Nat} (hct : CtOK P glb Y.S) (an : Nat → Items) (id : Nat) (body : Code) (ih : YcOK glb T B0 We n Y an body) : YcOK glb T B0 We n Y an (.block id (.loop body)) := by
  intro st ρ a W g s I E Wl K m h
  simp only [vcY] at h
  obtain ⟨hc, Iv, μ, h1, h2⟩ := chk_iff.1 h
  simp only [Bool.and_eq_true, Bool.not_eq_true'] at hc
  obtain ⟨⟨hs, hnd⟩, hok⟩ := hc
  subst hs
  have hA := m.mt.ahead (an id) (codeWrites body)
  refine wpIn_block ?_
  let Inv : (an id).G → Act → World → Prop := fun x a W => ∃ g ρ' I E Wl, (an id).app (Iv g) x ∧ ItOK glb T B0 We g false ((an id).head st (codeWrites body) x) ρ' a W I E Wl ∧ ρ.le ρ'
  refine wpIn_loop (fun a W => ∃ x, Inv x a W) (least Inv ((an id).app μ)) ?_ ?_
  · obtain ⟨x, ρh, hk, mh⟩ := m.mt.head hct (an id) (codeWrites body) hA hnd hok h1
    exact ⟨x, g, ρh, I, E, Wl, hk, m.go mh.1 fun _ => rfl, fun l v hv => by rw [mh.2.1 l (m.mt.dom l v hv)]; exact hv⟩
  · rintro a1 W1 ⟨x0, hx0⟩
    obtain ⟨x, ⟨g1, ρg, I1, E1, Wl1, hI, mg, hleg⟩, hμ⟩ := least_at (μ := (an id).app μ) hx0
    refine wpIn_mono (ih _ ρg a1 W1 g1 false I1 E1 Wl1 _ mg (All_spec (h2 g1) x hI)) ?_
    rintro e a2 W2 ⟨xt, st2, ρ2, g2, s2, I2, E2, Wl2, rfl, hk, hf, m2⟩
    have hfr : Frm st st2 (codeWrites body) ∧ ρ.le ρ2 := ⟨(head_frm x hok).trans hf.1, hleg.trans hf.2⟩
    cases xt with
    | norm =>
      obtain ⟨hkept, hget⟩ := chk_iff.1 hk
      simp only [Bool.and_eq_true, Bool.not_eq_true'] at hkept
      obtain ⟨hs2, hkept⟩ := hkept
      subst hs2
      obtain ⟨x', ρ', ⟨hI', hlt⟩, m0, hold', _⟩ := m2.mt.head hct (an id) (codeWrites body) (hA.next hok hf.1 hkept) hnd hok hget
      have hinv : Inv x' a2 W2 := ⟨g2, ρ', I2, E2, Wl2, hI', m2.go m0 fun _ => rfl, fun l v hv => by rw [hold' l (m.mt.dom l v hv)]; exact hfr.2 l v hv⟩
      refine ⟨⟨x', hinv⟩, ?_⟩
      rw [← hμ]
      exact Nat.lt_of_le_of_lt (least_le (I := Inv) hinv) hlt
    | ret => exact ⟨.ret, st2, ρ2, g2, s2, I2, E2, Wl2, rfl, hk, hfr, m2⟩
    | exit i =>
      show if i = id then _ else _
      by_cases hi : i = id
      · subst hi
        rw [if_pos rfl]
        have hk' : cond (Nat.beq i i) (K .norm st2 g2 s2) (K (.exit i) st2 g2 s2) := hk
        rw [Nat.beq_refl, cond_true] at hk'
        exact ⟨.norm, st2, ρ2, g2, s2, I2, E2, Wl2, rfl, hk', hfr, m2⟩
      · rw [if_neg hi]
        have hk' : cond (Nat.beq i id) (K .norm st2 g2 s2) (K (.exit i) st2 g2 s2) := hk
        rw [beq_ne hi, cond_false] at hk'
        exact ⟨.exit i, st2, ρ2, g2, s2, I2, E2, Wl2, rfl, hk', hfr, m2⟩

theorem vcY_ok_all {n : Nat} (hS : StatOK P Y.S) (hct : CtOK P glb Y.S) (hg : Y.S.glb = glb) (hy : YopOK glb T B0 We Y) (an : Nat → Items) (c : Code) : YcOK glb T B0 We n Y an c ∧ ∀ b, c = .loop b → YcOK glb T B0 We n Y an b := by
  have no : ∀ {c : Code}, (∀ b, c ≠ .loop b) → YcOK glb T B0 We n Y an c → YcOK glb T B0 We n Y an c ∧ ∀ b, c = .loop b → YcOK glb T B0 We n Y an b :=
    fun h1 h => ⟨h, fun b hb => absurd hb (h1 b)⟩
  induction c with
  | skip => exact no (fun _ h => by cases h) (fun st ρ a W g s I E Wl K m h => wpIn_skip ⟨.norm, st, ρ, g, s, I, E, Wl, rfl, h, ⟨Frm.refl _ _, ρ.le_refl⟩, m⟩)
  | exit id => exact no (fun _ h => by cases h) (fun st ρ a W g s I E Wl K m h => wpIn_exit ⟨.exit id, st, ρ, g, s, I, E, Wl, rfl, h, ⟨Frm.refl _ _, ρ.le_refl⟩, m⟩)
  | ret => exact no (fun _ h => by cases h) (fun st ρ a W g s I E Wl K m h => wpIn_ret ⟨.ret, st, ρ, g, s, I, E, Wl, rfl, h, ⟨Frm.refl _ _, ρ.le_refl⟩, m⟩)
  | region id ops draw =>
    refine no (fun _ h => by cases h) (fun st ρ a W g s I E Wl K m h => ?_)
    cases draw with
    | false =>
      refine wpIn_region_list ?_
      have := yOps_ok (n := n) hS hct hg hy ops.toList (id * 100) (K .norm) (PostY glb T B0 We st ρ (codeWrites (.region id ops false)) K) st ρ (codeWrites (.region id ops false)) (fun j o d ho hd => mem_filterMap_dst ho hd)
        (fun a W hp => let ⟨st', ρ', g', s', I', E', Wl', h1, h2, h3⟩ := hp; ⟨.norm, st', ρ', g', s', I', E', Wl', rfl, h1, h2, h3⟩) ops.toList 0 st ρ a W g s I E Wl (fun j => by rw [Nat.zero_add]) ⟨Frm.refl _ _, ρ.le_refl⟩ m h
      simpa using this
    | true =>
      simp only [vcY] at h
      obtain ⟨hc, h⟩ := chk_iff.1 h
      simp only [Bool.and_eq_true, Bool.not_eq_true'] at hc
      obtain ⟨⟨hng, hm⟩, hfull⟩ := hc
      refine vcAny_then (Wide.wide P) hS hct hg id ops (id * 100) (Y.fst id) _ _ (codeWrites (.region id ops true)) (fun j o d ho hd => mem_filterMap_dst ho hd) m.mt (Nat.le_of_ble_eq_true hm) hfull h ?_
      rintro a1 W1 ⟨st1, ρ1, hk1, hf1, m1⟩
      have := yOps_ok (n := n) hS hct hg hy ops.toList (id * 100) (K .norm) (PostY glb T B0 We st ρ (codeWrites (.region id ops true)) K) st ρ (codeWrites (.region id ops true)) (fun j o d ho hd => mem_filterMap_dst ho hd)
        (fun a W hp => let ⟨st', ρ', g', s', I', E', Wl', h1, h2, h3⟩ := hp; ⟨.norm, st', ρ', g', s', I', E', Wl', rfl, h1, h2, h3⟩) (ops.toList.drop (Y.fst id)) (Y.fst id) st1 ρ1 a1 W1 g s I E Wl (fun j => by rw [List.getElem?_drop]) hf1 (m.go m1 fun hh => by have := hy.gv; rw [hng] at this; rw [← this] at hh; cases hh) hk1
      simpa using this
  | seq x y ihx ihy =>
    refine no (fun _ h => by cases h) (fun st ρ a W g s I E Wl K m h => ?_)
    refine wpIn_seq (wpIn_mono (ihx.1 st ρ a W g s I E Wl _ m h) ?_)
    rintro e a1 W1 ⟨xt, st1, ρ1, g1, s1, I1, E1, Wl1, rfl, hk, hf, m1⟩
    have hfx : Frm st st1 (codeWrites x ++ codeWrites y) ∧ ρ.le ρ1 := ⟨hf.1.sub (fun t ht => List.mem_append.2 (.inl ht)), hf.2⟩
    cases xt with
    | norm =>
      refine wpIn_mono (ihy.1 st1 ρ1 a1 W1 g1 s1 I1 E1 Wl1 K m1 hk) ?_
      rintro e a2 W2 ⟨xt2, st2, ρ2, g2, s2, I2, E2, Wl2, he, hk2, hf2, m2⟩
      exact ⟨xt2, st2, ρ2, g2, s2, I2, E2, Wl2, he, hk2, ⟨hfx.1.trans (hf2.1.sub (fun t ht => List.mem_append.2 (.inr ht))), hfx.2.trans hf2.2⟩, m2⟩
    | exit i => exact ⟨.exit i, st1, ρ1, g1, s1, I1, E1, Wl1, rfl, hk, hfx, m1⟩
    | ret => exact ⟨.ret, st1, ρ1, g1, s1, I1, E1, Wl1, rfl, hk, hfx, m1⟩
  | cond c x y ihx ihy =>
    refine no (fun _ h => by cases h) (fun st ρ a W g s I E Wl K m h => ?_)
    obtain ⟨b, he0, hk⟩ := oneB_get h
    obtain ⟨b', hbb, hv⟩ := oneB_ok (k := fun x => x = b) (by rw [he0]; exact rfl) (ev_ok hS hg m.mt 0 c)
    obtain ⟨k1, k2⟩ := cnd_iff.1 hk
    subst hbb
    replace k1 : b' = true → vcY Y an x st g s K := fun hb => by have := k1 hb; rwa [← hb, known_eq he0] at this
    replace k2 : b' = false → vcY Y an y st g s K := fun hb => by have := k2 hb; rwa [← hb, known_eq he0] at this
    refine wpIn_cond_split hv (fun hb => ?_) (fun hb => ?_)
    · refine wpIn_mono (ihx.1 st ρ a W g s I E Wl K m (k1 hb)) ?_
      rintro e a1 W1 ⟨xt, st1, ρ1, g1, s1, I1, E1, Wl1, he, hk, hf, m1⟩
      exact ⟨xt, st1, ρ1, g1, s1, I1, E1, Wl1, he, hk, ⟨hf.1.sub (fun t ht => List.mem_append.2 (.inl ht)), hf.2⟩, m1⟩
    · refine wpIn_mono (ihy.1 st ρ a W g s I E Wl K m (k2 hb)) ?_
      rintro e a1 W1 ⟨xt, st1, ρ1, g1, s1, I1, E1, Wl1, he, hk, hf, m1⟩
      exact ⟨xt, st1, ρ1, g1, s1, I1, E1, Wl1, he, hk, ⟨hf.1.sub (fun t ht => List.mem_append.2 (.inr ht)), hf.2⟩, m1⟩
  | block id c ih =>
    refine no (fun _ h => by cases h) ?_
    by_cases hc : ∃ b, c = .loop b
    · obtain ⟨b, rfl⟩ := hc
      exact loopY_ok hct an id b (ih.2 b rfl)
    by_cases hrf2 : ∃ f ps x y, c = .rangeFunc f ps x y
    · obtain ⟨f, ps, x, y, rfl⟩ := hrf2
      intro st ρ a W g s I E Wl K m h
      simp only [vcY] at h
      obtain ⟨hng, h⟩ := chk_iff.1 h
      simp only [Bool.not_eq_true'] at hng
      have := vc_ok (F := Fence.wide) (n := n) (Wide.wide P) rfl hS hct hg an (.block id (.rangeFunc f ps x y)) st ρ a W _ m.mt h
      refine wpIn_mono this ?_
      rintro e a1 W1 ⟨xt, st1, ρ1, he, hk, hf, m1⟩
      exact ⟨xt, st1, ρ1, g, s, I, E, Wl, he, hk, hf, m.go m1 fun hh => by have := hy.gv; rw [hng] at this; rw [← this] at hh; cases hh⟩
    · intro st ρ a W g s I E Wl K m h
      have hc2 : ∀ f ps x y, c ≠ .rangeFunc f ps x y := fun f ps x y hb => hrf2 ⟨f, ps, x, y, hb⟩
      have hc' : ∀ b, c ≠ .loop b := fun b hb => hc ⟨b, hb⟩
      rw [vcY_block an id c K hc' hc2] at h
      refine wpIn_block (wpIn_mono (ih.1 st ρ a W g s I E Wl _ m h) ?_)
      rintro e a1 W1 ⟨xt, st1, ρ1, g1, s1, I1, E1, Wl1, rfl, hk, hf, m1⟩
      cases xt with
      | norm => exact ⟨.norm, st1, ρ1, g1, s1, I1, E1, Wl1, rfl, hk, hf, m1⟩
      | ret => exact ⟨.ret, st1, ρ1, g1, s1, I1, E1, Wl1, rfl, hk, hf, m1⟩
      | exit i =>
        show if i = id then _ else _
        by_cases hi : i = id
        · subst hi
          rw [if_pos rfl]
          have hk' : cond (Nat.beq i i) (K .norm st1 g1 s1) (K (.exit i) st1 g1 s1) := hk
          rw [Nat.beq_refl, cond_true] at hk'
          exact ⟨.norm, st1, ρ1, g1, s1, I1, E1, Wl1, rfl, hk', hf, m1⟩
        · rw [if_neg hi]
          have hk' : cond (Nat.beq i id) (K .norm st1 g1 s1) (K (.exit i) st1 g1 s1) := hk
          rw [beq_ne hi, cond_false] at hk'
          exact ⟨.exit i, st1, ρ1, g1, s1, I1, E1, Wl1, rfl, hk', hf, m1⟩
  | loop c ih => exact ⟨fun st ρ a W g s I E Wl K m h => h.elim, (fun b hb => by cases hb; exact ih.1)⟩
  | rangeFunc f ps x y ihx ihy => exact no (fun _ h => by cases h) (fun st ρ a W g s I E Wl K m h => h.elim)
  | scope c ih => exact no (fun _ h => by cases h) (fun st ρ a W g s I E Wl K m h => h.elim)
  | label l => exact no (fun _ h => by cases h) (fun st ρ a W g s I E Wl K m h => h.elim)
  | goto l => exact no (fun _ h => by cases h) (fun st ρ a W g s I E Wl K m h => h.elim)
  | refuse q => exact no (fun _ h => by cases h) (fun st ρ a W g s I E Wl K m h => h.elim)
end
end
end Go.GX

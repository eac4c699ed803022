/-
  DrawsPlays: contracts of functions, part 5.
-/
import Derived.Test.YtmcifbikfjmmfaaRows
import Derived.Test.YtmcifbikfjmmfaaNat
import Derived.WalkKit
import Derived.ProofKit
import Derived.OpenShut
import Derived.ChangeOld
import Derived.Below
import Derived.KernelRfl
import Derived.Lib.SmallJoins
import Derived.Test.YtmcifbikfjmmfaaDrawsPlaysPartd
namespace Go.Proofs.Ytmcifbikfjmmfaa.drawsPlays
open Go.ChangeShapes Go.WideShapes Go.ChangeAt Go.RowKit
open Go.SX
set_option linter.unusedVariables false
set_option linter.unusedSimpArgs false
set_option maxRecDepth 100000
noncomputable abbrev Z0 : E := .var 14
noncomputable abbrev Z1 : E := .var 10
noncomputable abbrev Z2 : E := .var 13
noncomputable abbrev Z3 : E := .fn 111 (.pr Z0 (.pr Z1 Z2))
noncomputable abbrev Z4 : E := .fn 131 Z1
noncomputable abbrev Z5 : E := .imp (.and Z3 Z4) (.fn 131 Z0)
noncomputable abbrev Z6 : E := .var 11
noncomputable abbrev Z7 : E := .not (.cmp .lss Z6 (.int 0))
noncomputable abbrev Z8 : E := .cmp .eql Z6 (.fn 0 Z1)
noncomputable abbrev Z9 : E := .cmp .eql (.fn 0 Z0) (.int 0)
noncomputable abbrev Z10 : E := .not Z9
noncomputable abbrev Z11 : E := .not (.cmp .lss (.int 300) Z6)
noncomputable abbrev Z12 : E := .cmp .lss (.int 300) (.fn 0 Z0)
noncomputable abbrev Z13 : E := .not Z12
noncomputable abbrev Z14 : E := .var 16
noncomputable abbrev Z15 : E := .cmp .eql Z14 Z2
noncomputable abbrev Z16 : E := .not (.cmp .lss Z2 (.int 0))
noncomputable abbrev Z17 : E := .and Z3 (.and Z15 Z16)
noncomputable abbrev Z18 : E := .cmp .lss Z14 (.int 0)
noncomputable abbrev Z19 : E := .not Z18
noncomputable abbrev Z20 : E := .imp Z17 Z19
noncomputable abbrev Z21 : E := .not (.cmp .lss Z6 Z2)
noncomputable abbrev Z22 : E := .and Z7 Z8
noncomputable abbrev Z23 : E := .and Z11 Z22
noncomputable abbrev Z24 : E := .and Z21 Z23
noncomputable abbrev Z25 : E := .and Z21 Z8
noncomputable abbrev Z26 : E := .cmp .lss (.fn 7 (.pr Z6 Z2)) (.int 0)
noncomputable abbrev Z27 : E := .not Z26
noncomputable abbrev Z28 : E := .imp (.and Z3 Z25) Z27
noncomputable abbrev Z29 : E := .ar .sub .i64 Z6 Z2
noncomputable abbrev Z30 : E := .cmp .lss Z29 (.int 1)
noncomputable abbrev Z31 : E := .not Z30
noncomputable abbrev Z32 : E := .and Z31 Z25
noncomputable abbrev Z33 : E := .and Z3 Z32
noncomputable abbrev Z34 : E := .cmp .lss Z2 Z6
noncomputable abbrev Z35 : E := .imp Z33 Z34
noncomputable abbrev Z36 : E := .and Z16 Z23
noncomputable abbrev Z37 : E := .cmp .lss (.int 2147483648) (.fn 7 (.pr Z6 Z2))
noncomputable abbrev Z38 : E := .not Z37
noncomputable abbrev Z39 : E := .imp (.and Z3 Z36) Z38
noncomputable abbrev Z40 : E := .var 1
noncomputable abbrev Z41 : E := .var 15
noncomputable abbrev Z42 : E := .cmp .lss (.fn 1 (.pr Z40 (.fn 6 (.pr (.fn 8 (.pr Z41 (.int 4))) (.int 1))))) (.int 1)
noncomputable abbrev Z43 : E := .not Z42
noncomputable abbrev Z44 : E := .cmp .lss (.int 4294967296) (.fn 1 (.pr Z40 (.fn 6 (.pr (.fn 8 (.pr Z41 (.int 4))) (.int 1)))))
noncomputable abbrev Z45 : E := .not Z44
noncomputable abbrev Z46 : E := .wr .u64 (.fn 1 (.pr Z40 (.fn 6 (.pr (.fn 8 (.pr Z41 (.int 4))) (.int 1)))))
noncomputable abbrev Z47 : E := .imp Z3 (.not (.cmp .lss Z6 (.fn 6 (.pr Z2 (.fn 7 (.pr Z6 Z2))))))
noncomputable abbrev Z48 : E := .var 17
noncomputable abbrev Z49 : E := .fn 111 (.pr Z48 (.pr Z0 (.int 1)))
noncomputable abbrev Z50 : E := .ar .rem .u64 (.fn 1 (.pr Z1 Z2)) Z46
noncomputable abbrev Z51 : E := .wr .i64 Z50
noncomputable abbrev Z52 : E := .ar .rem .u64 (.fn 1 (.pr Z0 (.int 0))) Z46
noncomputable abbrev Z53 : E := .wr .i64 Z52
noncomputable abbrev Z54 : E := .var 18
noncomputable abbrev Z55 : E := .cmp .eql Z54 (.fn 6 (.pr Z14 (.int 1)))
noncomputable abbrev Z56 : E := .and Z55 (.and Z49 (.and Z30 Z11))
noncomputable abbrev Z57 : E := .and Z10 Z56
noncomputable abbrev Z58 : E := .and Z45 Z57
noncomputable abbrev Z59 : E := .and Z43 Z58
noncomputable abbrev Z60 : E := .and Z4 Z59
noncomputable abbrev Z61 : E := .and Z8 Z60
noncomputable abbrev Z62 : E := .and Z7 Z61
noncomputable abbrev Z63 : E := .and Z16 Z62
noncomputable abbrev Z64 : E := .and Z21 Z63
noncomputable abbrev Z65 : E := .and Z3 Z64
noncomputable abbrev Z66 : E := .and Z15 Z65
noncomputable abbrev Z67 : E := .cmp .eql Z53 (.int 0)
noncomputable abbrev Z68 : E := .and Z21 Z36
noncomputable abbrev Z69 : E := .and Z31 Z68
noncomputable abbrev Z70 : E := .and Z45 (.and Z9 Z69)
noncomputable abbrev Z71 : E := .and Z43 Z70
noncomputable abbrev Z72 : E := .and Z4 Z71
noncomputable abbrev Z73 : E := .and Z3 Z72
noncomputable abbrev Z74 : E := .cmp .eql Z51 (.int 0)
noncomputable abbrev Z75 : E := .cmp .eql (.var 12) Z2
noncomputable abbrev Z76 : E := .not (.cmp .lss (.var 12) Z6)
noncomputable abbrev Z77 : E := .and Z76 (.and Z11 Z8)
noncomputable abbrev Z78 : E := .and Z16 Z77
noncomputable abbrev Z79 : E := .and Z21 Z78
noncomputable abbrev Z80 : E := .fn 106 (.pr (.fn 10 (.int 0)) Z0)
noncomputable abbrev Z81 : E := .pr (.fn 4 (.pr Z1 (.pr Z2 (.fn 6 (.pr Z2 (.fn 7 (.pr Z6 Z2))))))) Z0
noncomputable abbrev Z82 : E := .fn 106 Z81
noncomputable abbrev Z83 : E := .imp (.and Z3 Z8) Z82
noncomputable abbrev Z84 : E := .ar .add .i64 Z2 (.int 1)
noncomputable abbrev Z85 : E := .cmp .lss Z84 (.int 0)
noncomputable abbrev Z86 : E := .not Z85
noncomputable abbrev Z87 : E := .and Z3 (.and Z10 (.and Z49 Z68))
noncomputable abbrev Z88 : E := .and Z75 Z11
noncomputable abbrev Z89 : E := .and Z3 Z68
noncomputable abbrev Z90 : E := .cmp .eql (.fn 7 (.pr Z6 Z2)) (.fn 0 (.fn 4 (.pr Z1 (.pr Z2 (.fn 6 (.pr Z2 (.fn 7 (.pr Z6 Z2))))))))
noncomputable abbrev Z91 : E := .imp Z15 (.cmp .eql Z2 Z14)
noncomputable abbrev Z92 : E := .fn 111 (.pr (.var 42) (.pr Z1 (.var 41)))
noncomputable abbrev Z93 : E := .var 46
noncomputable abbrev Z94 : E := .var 43
noncomputable abbrev Z95 : E := .and Z92 (.and (.cmp .lss Z93 (.var 44)) (.and (.not (.cmp .lss (.int 300) (.var 44))) (.and (.not (.cmp .lss Z93 (.int 0))) (.cmp .eql (.var 44) (.fn 0 Z94)))))
noncomputable abbrev Z96 : E := .ar .add .i64 Z93 (.int 1)
noncomputable abbrev Z97 : E := .imp Z95 (.not (.cmp .lss Z96 (.int 0)))
noncomputable abbrev Z98 : E := .cmp .lss Z41 (.int 0)
noncomputable abbrev Z99 : E := .not Z98
noncomputable abbrev Z100 : E := .cmp .lss (.int 40) (.fn 9 (.pr Z40 (.int 4)))
noncomputable abbrev Z101 : E := .not Z100
noncomputable abbrev Z102 : E := .cmp .lss Z41 (.fn 9 (.pr Z40 (.int 4)))
noncomputable abbrev Z103 : E := .and Z101 Z102
noncomputable abbrev Z104 : E := .and Z99 Z103
noncomputable abbrev Z105 : E := .and Z92 Z104
noncomputable abbrev Z106 : E := .ar .add .i64 Z41 (.int 1)
noncomputable abbrev Z107 : E := .imp Z105 (.not (.cmp .lss Z106 (.int 0)))
noncomputable abbrev Z108 : E := .and Z75 (.and Z15 Z79)
noncomputable abbrev Z109 : E := .cmp .eql Z29 (.fn 0 Z0)
noncomputable abbrev Z110 : E := .not Z75
noncomputable abbrev Z111 : E := .and Z76 Z23
noncomputable abbrev Z112 : E := .and Z16 Z111
noncomputable abbrev Z113 : E := .and Z21 Z112
noncomputable abbrev Z114 : E := .and Z110 Z113
noncomputable abbrev Z115 : E := .cmp .eql (.fn 7 (.pr Z6 Z2)) (.fn 0 Z0)
noncomputable abbrev Z116 : E := .imp Z95 (.not (.cmp .lss (.var 44) Z96))
noncomputable abbrev Z117 : E := .imp Z105 (.not (.cmp .lss (.fn 9 (.pr Z40 (.int 4))) Z106))
noncomputable abbrev Z118 : E := .cmp .lss (.int 300) (.fn 7 (.pr Z6 Z2))
noncomputable abbrev Z119 : E := .not Z118
noncomputable abbrev Z120 : E := .imp (.and Z3 Z36) Z119
noncomputable abbrev Z121 : E := .imp Z95 (.cmp .lss (.fn 7 (.pr (.var 44) Z96)) (.fn 7 (.pr (.var 44) Z93)))
noncomputable abbrev Z122 : E := .imp Z105 (.cmp .lss (.fn 7 (.pr (.fn 9 (.pr Z40 (.int 4))) Z106)) (.fn 7 (.pr (.fn 9 (.pr Z40 (.int 4))) Z41)))
noncomputable abbrev Z123 : E := .imp Z95 (.not (.cmp .lss (.fn 7 (.pr (.var 44) Z96)) (.int 0)))
noncomputable abbrev Z124 : E := .imp Z105 (.not (.cmp .lss (.fn 7 (.pr (.fn 9 (.pr Z40 (.int 4))) Z106)) (.int 0)))
noncomputable abbrev Z125 : E := .not (.cmp .lss Z6 Z84)
noncomputable abbrev Z126 : E := .cmp .eql (.var 12) Z84
noncomputable abbrev Z127 : E := .not Z126
noncomputable abbrev Z128 : E := .and Z127 Z113
noncomputable abbrev Z129 : E := .and Z49 Z128
noncomputable abbrev Z130 : E := .and Z3 Z129
noncomputable abbrev Z131 : E := .pr (.fn 10 (.int 0)) Z48
noncomputable abbrev Z132 : E := .fn 106 Z131
noncomputable abbrev Z133 : E := .cmp .eql (.fn 0 Z48) (.int 0)
noncomputable abbrev Z134 : E := .and Z10 Z129
noncomputable abbrev Z135 : E := .and Z3 Z134
noncomputable abbrev Z136 : E := .cmp .eql (.ar .sub .i64 Z6 Z84) (.fn 0 Z48)
noncomputable abbrev Z137 : E := .and Z15 Z68
noncomputable abbrev Z138 : E := .and Z3 (.and Z55 (.and Z49 Z137))
noncomputable abbrev Z139 : E := .cmp .eql Z54 (.fn 1 (.pr Z40 (.fn 6 (.pr (.fn 8 (.pr Z41 (.int 4))) (.int 2)))))
noncomputable abbrev Z140 : E := .not (.cmp .lss (.fn 1 (.pr Z40 (.fn 6 (.pr (.fn 8 (.pr Z41 (.int 4))) (.int 2))))) (.int 1))
noncomputable abbrev Z141 : E := .var 19
noncomputable abbrev Z142 : E := .var 20
noncomputable abbrev Z143 : E := .cmp .eql Z142 (.fn 1 (.pr Z40 (.fn 6 (.pr (.fn 8 (.pr Z41 (.int 4))) (.int 2)))))
noncomputable abbrev Z144 : E := .fn 132 (.pr (.fn 1 (.pr Z40 (.fn 6 (.pr (.fn 8 (.pr Z41 (.int 4))) (.int 2))))) (.fn 1 (.pr Z40 (.fn 6 (.pr (.fn 8 (.pr Z41 (.int 4))) (.int 1))))))
noncomputable abbrev Z145 : E := .not Z144
noncomputable abbrev Z146 : E := .cmp .lss (.fn 7 (.pr Z6 Z2)) (.fn 1 (.pr Z40 (.fn 6 (.pr (.fn 8 (.pr Z41 (.int 4))) (.int 2)))))
noncomputable abbrev Z147 : E := .cmp .eql (.fn 1 (.pr Z40 (.fn 6 (.pr (.fn 8 (.pr Z41 (.int 4))) (.int 2))))) (.int 0)
noncomputable abbrev Z148 : E := .not (.cmp .eql (.fn 1 (.pr Z40 (.fn 6 (.pr (.fn 8 (.pr Z41 (.int 4))) (.int 0))))) (.int 0))
noncomputable abbrev Z149 : E := .cmp .eql (.fn 1 (.pr Z40 (.fn 6 (.pr (.fn 8 (.pr Z41 (.int 4))) (.int 0))))) (.int 2)
noncomputable abbrev Z150 : E := .cmp .lss (.int 300) (.fn 6 (.pr Z14 (.fn 0 Z0)))
noncomputable abbrev Z151 : E := .not Z150
noncomputable abbrev Z152 : E := .mn (.fn 9 (.pr Z40 (.int 4))) (.int 41)
noncomputable abbrev Z153 : E := .fn 130 (.pr Z40 Z152)
noncomputable abbrev Z154 : E := .and Z148 Z149
noncomputable abbrev Z155 : E := .and Z144 (.and Z145 Z154)
noncomputable abbrev Z156 : E := .and Z3 Z155
noncomputable abbrev Z157 : E := .not Z146
noncomputable abbrev Z158 : E := .cmp .eql Z142 (.fn 6 (.pr Z2 (.fn 1 (.pr Z40 (.fn 6 (.pr (.fn 8 (.pr Z41 (.int 4))) (.int 2)))))))
noncomputable abbrev Z159 : E := .cmp .eql Z54 Z14
noncomputable abbrev Z160 : E := .fn 111 (.pr Z48 (.pr Z0 (.int 0)))
noncomputable abbrev Z161 : E := .cmp .eql Z141 Z2
noncomputable abbrev Z162 : E := .and Z159 (.and Z160 Z161)
noncomputable abbrev Z163 : E := .cmp .eql Z54 (.fn 6 (.pr Z14 (.fn 1 (.pr Z40 (.fn 6 (.pr (.fn 8 (.pr Z41 (.int 4))) (.int 2)))))))
noncomputable abbrev Z164 : E := .fn 111 (.pr Z48 (.pr Z0 (.fn 1 (.pr Z40 (.fn 6 (.pr (.fn 8 (.pr Z41 (.int 4))) (.int 2)))))))
noncomputable abbrev Z165 : E := .cmp .eql Z142 (.fn 0 Z141)
noncomputable abbrev Z166 : E := .var 22
noncomputable abbrev Z167 : E := .cmp .lss (.fn 0 Z0) (.fn 1 (.pr Z40 (.fn 6 (.pr (.fn 8 (.pr Z41 (.int 4))) (.int 2)))))
noncomputable abbrev Z168 : E := .and Z8 Z154
noncomputable abbrev Z169 : E := .and Z7 Z168
noncomputable abbrev Z170 : E := .and Z11 Z169
noncomputable abbrev Z171 : E := .and Z160 (.and Z145 (.and Z161 Z25))
noncomputable abbrev Z172 : E := .and Z3 Z171
noncomputable abbrev Z173 : E := .cmp .eql (.var 23) (.fn 0 Z166)
noncomputable abbrev Z174 : E := .cmp .eql (.var 23) (.fn 1 (.pr Z40 (.fn 6 (.pr (.fn 8 (.pr Z41 (.int 4))) (.int 2)))))
noncomputable abbrev Z175 : E := .var 25
noncomputable abbrev Z176 : E := .cmp .eql Z175 (.fn 6 (.pr Z2 (.fn 1 (.pr Z40 (.fn 6 (.pr (.fn 8 (.pr Z41 (.int 4))) (.int 2)))))))
noncomputable abbrev Z177 : E := .and Z11 Z168
noncomputable abbrev Z178 : E := .and Z76 Z177
noncomputable abbrev Z179 : E := .and Z16 Z178
noncomputable abbrev Z180 : E := .and Z21 Z179
noncomputable abbrev Z181 : E := .and Z3 Z180
noncomputable abbrev Z182 : E := .and Z15 Z181
noncomputable abbrev Z183 : E := .and Z75 Z182
noncomputable abbrev Z184 : E := .and Z160 (.and Z145 (.and Z161 Z36))
noncomputable abbrev Z185 : E := .and Z3 Z184
noncomputable abbrev Z186 : E := .and Z148 (.and Z149 (.and Z144 Z114))
noncomputable abbrev Z187 : E := .and Z3 Z186
noncomputable abbrev Z188 : E := .cmp .eql (.var 12) Z141
noncomputable abbrev Z189 : E := .and Z16 Z8
noncomputable abbrev Z190 : E := .and Z15 Z36
noncomputable abbrev Z191 : E := .and Z3 Z162
noncomputable abbrev Z192 : E := .and Z15 Z191
noncomputable abbrev Z193 : E := .cmp .eql (.ar .sub .i64 Z6 Z141) (.fn 0 Z48)
noncomputable abbrev Z194 : E := .and Z16 (.and Z76 Z8)
noncomputable abbrev Z195 : E := .and Z21 Z194
noncomputable abbrev Z196 : E := .and Z173 (.and Z174 (.and Z157 Z8))
noncomputable abbrev Z197 : E := .and Z176 Z196
noncomputable abbrev Z198 : E := .and Z145 Z197
noncomputable abbrev Z199 : E := .and Z143 Z198
noncomputable abbrev Z200 : E := .and Z165 Z199
noncomputable abbrev Z201 : E := .and Z164 Z200
noncomputable abbrev Z202 : E := .and Z163 Z201
noncomputable abbrev Z203 : E := .and Z3 Z202
noncomputable abbrev Z204 : E := .and Z176 (.and Z173 (.and Z174 Z36))
noncomputable abbrev Z205 : E := .and Z145 Z204
noncomputable abbrev Z206 : E := .and Z140 Z205
noncomputable abbrev Z207 : E := .and Z143 Z206
noncomputable abbrev Z208 : E := .and Z165 Z207
noncomputable abbrev Z209 : E := .and Z164 Z208
noncomputable abbrev Z210 : E := .and Z163 Z209
noncomputable abbrev Z211 : E := .and Z3 Z210
noncomputable abbrev Z212 : E := .cmp .eql (.var 12) Z175
noncomputable abbrev Z213 : E := .and Z3 (.and Z163 (.and Z164 Z176))
noncomputable abbrev Z214 : E := .and Z15 Z213
noncomputable abbrev Z215 : E := .cmp .eql (.ar .sub .i64 Z6 Z175) (.fn 0 Z48)
noncomputable abbrev Z216 : E := .imp Z89 Z86
noncomputable abbrev Z217 : E := .imp (.and Z3 Z69) Z125
noncomputable abbrev Z218 : E := .cmp .eql (.fn 1 (.pr Z40 (.fn 6 (.pr (.fn 8 (.pr Z41 (.int 4))) (.int 0))))) (.int 1)
noncomputable abbrev Z219 : E := .not Z218
noncomputable abbrev Z220 : E := .cmp .lss (.fn 7 (.pr Z6 Z2)) (.int 2)
noncomputable abbrev Z221 : E := .not Z149
noncomputable abbrev Z222 : E := .and Z11 (.and Z8 (.and Z148 Z221))
noncomputable abbrev Z223 : E := .and Z76 Z222
noncomputable abbrev Z224 : E := .and Z16 Z223
noncomputable abbrev Z225 : E := .and Z21 Z224
noncomputable abbrev Z226 : E := .and Z3 Z225
noncomputable abbrev Z227 : E := .and Z15 Z226
noncomputable abbrev Z228 : E := .and Z75 Z227
noncomputable abbrev Z229 : E := .not Z220
noncomputable abbrev Z230 : E := .and Z75 (.and Z15 (.and Z3 Z76))
noncomputable abbrev Z231 : E := .and Z229 Z230
noncomputable abbrev Z232 : E := .imp Z231 Z80
noncomputable abbrev Z233 : E := .and Z15 (.and Z21 Z189)
noncomputable abbrev Z234 : E := .and Z220 Z233
noncomputable abbrev Z235 : E := .and Z30 Z234
noncomputable abbrev Z236 : E := .and Z3 Z235
noncomputable abbrev Z237 : E := .imp Z236 Z90
noncomputable abbrev Z238 : E := .and Z76 (.and Z8 (.and Z229 Z75))
noncomputable abbrev Z239 : E := .and Z3 Z238
noncomputable abbrev Z240 : E := .imp Z239 Z9
noncomputable abbrev Z241 : E := .and Z229 Z190
noncomputable abbrev Z242 : E := .and Z30 Z241
noncomputable abbrev Z243 : E := .and Z3 Z242
noncomputable abbrev Z244 : E := .imp Z243 Z90
noncomputable abbrev Z245 : E := .and Z219 (.and Z30 (.and Z220 Z108))
noncomputable abbrev Z246 : E := .and Z15 Z195
noncomputable abbrev Z247 : E := .and Z110 Z246
noncomputable abbrev Z248 : E := .and Z220 Z247
noncomputable abbrev Z249 : E := .and Z30 Z248
noncomputable abbrev Z250 : E := .and Z219 Z249
noncomputable abbrev Z251 : E := .and Z221 Z250
noncomputable abbrev Z252 : E := .and Z148 Z251
noncomputable abbrev Z253 : E := .and Z3 Z252
noncomputable abbrev Z254 : E := .and Z229 (.and Z75 (.and Z15 Z76))
noncomputable abbrev Z255 : E := .and Z3 Z254
noncomputable abbrev Z256 : E := .imp Z255 Z109
noncomputable abbrev Z257 : E := .and Z218 Z114
noncomputable abbrev Z258 : E := .and Z148 (.and Z221 Z257)
noncomputable abbrev Z259 : E := .and Z3 Z258
noncomputable abbrev Z260 : E := .imp Z243 Z115
noncomputable abbrev Z261 : E := .imp Z243 Z109
noncomputable abbrev Z262 : E := .cmp .lss (.fn 7 (.pr Z6 Z84)) (.int 2)
noncomputable abbrev Z263 : E := .and Z262 Z68
noncomputable abbrev Z264 : E := .cmp .eql Z141 (.fn 6 (.pr Z84 (.int 2)))
noncomputable abbrev Z265 : E := .and (.not Z262) Z68
noncomputable abbrev Z266 : E := .and Z264 Z265
noncomputable abbrev Z267 : E := .and Z31 Z266
noncomputable abbrev Z268 : E := .and Z219 Z267
noncomputable abbrev Z269 : E := .and Z221 Z268
noncomputable abbrev Z270 : E := .and Z148 Z269
noncomputable abbrev Z271 : E := .and Z3 Z270
noncomputable abbrev Z272 : E := .and Z219 (.and Z31 Z263)
noncomputable abbrev Z273 : E := .and Z153 Z104
noncomputable abbrev Z274 : E := .and Z3 Z273
noncomputable abbrev Z275 : E := .not (.cmp .eql (.fn 0 (.fn 1 (.pr Z40 (.fn 6 (.pr (.fn 8 (.pr Z41 (.int 4))) (.int 3)))))) (.int 0))
noncomputable abbrev Z276 : E := .cmp .lss (.fn 0 Z0) (.fn 7 (.pr (.fn 0 (.fn 1 (.pr Z40 (.fn 6 (.pr (.fn 8 (.pr Z41 (.int 4))) (.int 3)))))) (.int 1)))
noncomputable abbrev Z277 : E := .cmp .eql (.fn 0 (.fn 1 (.pr Z40 (.fn 6 (.pr (.fn 8 (.pr Z41 (.int 4))) (.int 3)))))) (.fn 0 Z54)
noncomputable abbrev Z278 : E := .and Z221 (.and Z275 (.and Z218 Z102))
noncomputable abbrev Z279 : E := .and Z148 Z278
noncomputable abbrev Z280 : E := .and Z101 Z279
noncomputable abbrev Z281 : E := .and Z8 Z280
noncomputable abbrev Z282 : E := .cmp .lss (.fn 7 (.pr Z6 Z2)) (.fn 7 (.pr (.fn 0 (.fn 1 (.pr Z40 (.fn 6 (.pr (.fn 8 (.pr Z41 (.int 4))) (.int 3)))))) (.int 1)))
noncomputable abbrev Z283 : E := .cmp .eql (.fn 0 Z54) (.fn 0 (.fn 1 (.pr Z40 (.fn 6 (.pr (.fn 8 (.pr Z41 (.int 4))) (.int 3))))))
noncomputable abbrev Z284 : E := .fn 111 (.pr Z142 (.pr Z0 (.fn 7 (.pr (.fn 0 (.fn 1 (.pr Z40 (.fn 6 (.pr (.fn 8 (.pr Z41 (.int 4))) (.int 3)))))) (.int 1)))))
noncomputable abbrev Z285 : E := .cmp .eql (.var 21) (.fn 6 (.pr Z14 (.fn 7 (.pr (.fn 0 (.fn 1 (.pr Z40 (.fn 6 (.pr (.fn 8 (.pr Z41 (.int 4))) (.int 3)))))) (.int 1)))))
noncomputable abbrev Z286 : E := .not Z282
noncomputable abbrev Z287 : E := .cmp .eql (.fn 0 (.fn 1 (.pr Z40 (.fn 6 (.pr (.fn 8 (.pr Z41 (.int 4))) (.int 3)))))) (.fn 0 Z166)
noncomputable abbrev Z288 : E := .var 24
noncomputable abbrev Z289 : E := .cmp .eql Z288 (.fn 6 (.pr Z2 (.fn 7 (.pr (.fn 0 (.fn 1 (.pr Z40 (.fn 6 (.pr (.fn 8 (.pr Z41 (.int 4))) (.int 3)))))) (.int 1)))))
noncomputable abbrev Z290 : E := .and Z148 (.and Z221 (.and Z275 Z218))
noncomputable abbrev Z291 : E := .and Z8 Z290
noncomputable abbrev Z292 : E := .and Z287 (.and Z289 (.and Z286 Z8))
noncomputable abbrev Z293 : E := .and Z284 Z292
noncomputable abbrev Z294 : E := .and Z285 Z293
noncomputable abbrev Z295 : E := .and Z3 Z294
noncomputable abbrev Z296 : E := .and Z221 (.and Z275 Z257)
noncomputable abbrev Z297 : E := .and Z148 Z296
noncomputable abbrev Z298 : E := .and Z3 Z297
noncomputable abbrev Z299 : E := .cmp .eql (.var 12) Z288
noncomputable abbrev Z300 : E := .and (.not Z299) Z112
noncomputable abbrev Z301 : E := .and Z286 Z300
noncomputable abbrev Z302 : E := .and Z289 Z301
noncomputable abbrev Z303 : E := .and Z287 Z302
noncomputable abbrev Z304 : E := .and Z15 (.and Z3 (.and Z285 Z289))
noncomputable abbrev Z305 : E := .cmp .eql (.ar .sub .i64 Z6 Z288) (.fn 0 Z142)
noncomputable abbrev Z306 : E := .and Z275 Z250
noncomputable abbrev Z307 : E := .and Z221 Z306
noncomputable abbrev Z308 : E := .and Z148 Z307
noncomputable abbrev Z309 : E := .and Z3 Z308
noncomputable abbrev Z310 : E := .and Z275 Z268
noncomputable abbrev Z311 : E := .and Z221 Z310
noncomputable abbrev Z312 : E := .and Z148 Z311
noncomputable abbrev Z313 : E := .and Z3 Z312
namespace l0_0
noncomputable def f0 : E := Z5
theorem fact0 (ρ : Env) : E.B ρ f0 = true := by
  unfold f0
  rw [sm_B_imp]
  simp only [sm_B_and]
  rintro ⟨p0, p1⟩
  exact (t131_drop p0 p1)
noncomputable def f1 : E := (.imp (.and Z3 (.and Z7 (.and Z8 (.and Z10 Z11)))) Z13)
theorem fact1 (ρ : Env) : E.B ρ f1 = true := by
  unfold f1
  rw [sm_B_imp]
  simp only [sm_B_and]
  rintro ⟨p0, p1, p2, p3, p4⟩
  have hl0 := t111_len p0
  try simp only [smA, smW] at *
  have n2 := fn0_nn (ρ := ρ) Z1
  have n3 := fn0_nn (ρ := ρ) Z0
  omega
noncomputable def f2 : E := Z20
theorem fact2 (ρ : Env) : E.B ρ f2 = true := by
  unfold f2
  rw [sm_B_imp]
  simp only [sm_B_and]
  rintro ⟨p0, p1, p2⟩
  have hl0 := t111_len p0
  try simp only [smA, smW] at *
  omega
noncomputable def f3 : E := (.imp (.and Z3 (.and Z15 Z24)) (.not (.cmp .lss (.int 300) Z14)))
theorem fact3 (ρ : Env) : E.B ρ f3 = true := by
  unfold f3
  rw [sm_B_imp]
  simp only [sm_B_and]
  rintro ⟨p0, p1, p2, p3, p4, p5⟩
  have hl0 := t111_len p0
  try simp only [smA, smW] at *
  have n4 := fn0_nn (ρ := ρ) Z1
  omega
noncomputable def f4 : E := Z28
theorem fact4 (ρ : Env) : E.B ρ f4 = true := by
  unfold f4
  rw [sm_B_imp]
  simp only [sm_B_and]
  rintro ⟨p0, p1, p2⟩
  have hl0 := t111_len p0
  try simp only [smA, smW] at *
  have n3 := fn0_nn (ρ := ρ) Z1
  omega
noncomputable def f5 : E := Z35
theorem fact5 (ρ : Env) : E.B ρ f5 = true := by
  unfold f5
  rw [sm_B_imp]
  simp only [sm_B_and]
  rintro ⟨p0, p1, p2, p3⟩
  have hl0 := t111_len p0
  try simp only [smA, smW] at *
  have n3 := fn0_nn (ρ := ρ) Z1
  obtain ⟨a3, ea3, qa3⟩ := cs_i64 ((E.I ρ Z6) - (E.I ρ Z2))
  try simp only [ea3] at *
  omega
noncomputable def f6 : E := Z39
theorem fact6 (ρ : Env) : E.B ρ f6 = true := by
  unfold f6
  rw [sm_B_imp]
  simp only [sm_B_and]
  rintro ⟨p0, p1, p2, p3, p4⟩
  have hl0 := t111_len p0
  try simp only [smA, smW] at *
  have n3 := fn0_nn (ρ := ρ) Z1
  omega
noncomputable def f7 : E := (.imp (.and Z3 (.and Z43 Z45)) (.not (.cmp .eql Z46 (.int 0))))
theorem fact7 (ρ : Env) : E.B ρ f7 = true := by
  unfold f7
  rw [sm_B_imp]
  simp only [sm_B_and]
  rintro ⟨p0, p1, p2⟩
  have hl0 := t111_len p0
  try simp only [smA, smW] at *
  obtain ⟨a1, ea1, qa1⟩ := cs_u64 (E.I ρ (.fn 1 (.pr Z40 (.fn 6 (.pr (.fn 8 (.pr Z41 (.int 4))) (.int 1))))))
  try simp only [ea1] at *
  omega
noncomputable def f8 : E := Z47
theorem fact8 (ρ : Env) : E.B ρ f8 = true := by
  unfold f8
  rw [sm_B_imp]
  intro p0
  have hl0 := t111_len p0
  try simp only [smA, smW] at *
  omega
noncomputable def f9 : E := (.imp (.and Z3 (.and Z4 (.and Z49 Z16))) (.cmp .eql Z51 Z53))
theorem fact9 (ρ : Env) : E.B ρ f9 = true := by
  unfold f9
  rw [sm_B_imp]
  simp only [sm_B_and]
  rintro ⟨p0, p1, p2, p3⟩
  obtain ⟨h1, h2, h3⟩ : (0) ≤ (0) ∧ (0) ≤ E.I ρ Z2 ∧ E.I ρ Z2 = E.I ρ (.fn 6 (.pr Z2 (.int 0))) := by
    have hl0 := t111_len p0
    have hl2 := t111_len p2
    have hn0 := t131_nth p1 Z2
    have hn1 := t131_nth (t131_drop p0 p1) (.int 0)
    try simp only [smA, smW] at *
    omega
  have g6 : E.I ρ (.fn 1 (.pr Z0 (.int 0))) = E.I ρ (.fn 1 (.pr Z1 Z2)) := nth_drop p0 (by (try simp only [sm_I_int]); omega) (by (try simp only [sm_I_int]); omega) h3
  clear h1 h2 h3
  rw [sm_B_eql]
  simp only [smA]
  rw [g6]
noncomputable def f10 : E := (.imp Z66 Z67)
theorem fact10 (ρ : Env) : E.B ρ f10 = true := by
  unfold f10
  rw [sm_B_imp]
  simp only [sm_B_and]
  rintro ⟨p0, p1, p2, p3, p4, p5, p6, p7, p8, p9, p10, p11, p12, p13⟩
  have hl1 := t111_len p1
  have hl11 := t111_len p11
  have hn0 := t131_nth (t131_drop p1 p6) (.int 0)
  try simp only [smA, smW] at *
  have n4 := fn0_nn (ρ := ρ) Z1
  have n6 := fn0_nn (ρ := ρ) Z0
  obtain ⟨a8, ea8, qa8⟩ := cs_i64 ((E.I ρ Z6) - (E.I ρ Z2))
  try simp only [ea8] at *
  obtain ⟨a9, ea9, qa9⟩ := cs_u64 (E.I ρ (.fn 1 (.pr Z40 (.fn 6 (.pr (.fn 8 (.pr Z41 (.int 4))) (.int 1))))))
  try simp only [ea9] at *
  obtain ⟨a10, ea10, qa10⟩ := cs_rem (E.I ρ (.fn 1 (.pr Z0 (.int 0)))) a9
  try simp only [ea10] at *
  obtain ⟨a11, ea11, qa11⟩ := cs_i64 a10
  try simp only [ea11] at *
  omega
noncomputable def f11 : E := (.imp Z66 (.not Z67))
theorem fact11 (ρ : Env) : E.B ρ f11 = true := by
  unfold f11
  rw [sm_B_imp]
  simp only [sm_B_and]
  rintro ⟨p0, p1, p2, p3, p4, p5, p6, p7, p8, p9, p10, p11, p12, p13⟩
  have hl1 := t111_len p1
  have hl11 := t111_len p11
  have hn0 := t131_nth (t131_drop p1 p6) (.int 0)
  try simp only [smA, smW] at *
  have n4 := fn0_nn (ρ := ρ) Z1
  have n6 := fn0_nn (ρ := ρ) Z0
  obtain ⟨a8, ea8, qa8⟩ := cs_i64 ((E.I ρ Z6) - (E.I ρ Z2))
  try simp only [ea8] at *
  obtain ⟨a9, ea9, qa9⟩ := cs_u64 (E.I ρ (.fn 1 (.pr Z40 (.fn 6 (.pr (.fn 8 (.pr Z41 (.int 4))) (.int 1))))))
  try simp only [ea9] at *
  obtain ⟨a10, ea10, qa10⟩ := cs_rem (E.I ρ (.fn 1 (.pr Z0 (.int 0)))) a9
  try simp only [ea10] at *
  obtain ⟨a11, ea11, qa11⟩ := cs_i64 a10
  try simp only [ea11] at *
  omega
noncomputable def f12 : E := (.imp Z73 Z74)
theorem fact12 (ρ : Env) : E.B ρ f12 = true := by
  unfold f12
  rw [sm_B_imp]
  simp only [sm_B_and]
  rintro ⟨p0, p1, p2, p3, p4, p5, p6, p7, p8, p9, p10⟩
  have hl0 := t111_len p0
  have hn0 := t131_nth p1 Z2
  try simp only [smA, smW] at *
  have n2 := fn0_nn (ρ := ρ) Z0
  have n5 := fn0_nn (ρ := ρ) Z1
  obtain ⟨a6, ea6, qa6⟩ := cs_i64 ((E.I ρ Z6) - (E.I ρ Z2))
  try simp only [ea6] at *
  obtain ⟨a7, ea7, qa7⟩ := cs_u64 (E.I ρ (.fn 1 (.pr Z40 (.fn 6 (.pr (.fn 8 (.pr Z41 (.int 4))) (.int 1))))))
  try simp only [ea7] at *
  obtain ⟨a8, ea8, qa8⟩ := cs_rem (E.I ρ (.fn 1 (.pr Z1 Z2))) a7
  try simp only [ea8] at *
  obtain ⟨a9, ea9, qa9⟩ := cs_i64 a8
  try simp only [ea9] at *
  omega
noncomputable def f13 : E := (.imp Z73 (.not Z74))
theorem fact13 (ρ : Env) : E.B ρ f13 = true := by
  unfold f13
  rw [sm_B_imp]
  simp only [sm_B_and]
  rintro ⟨p0, p1, p2, p3, p4, p5, p6, p7, p8, p9, p10⟩
  have hl0 := t111_len p0
  have hn0 := t131_nth p1 Z2
  try simp only [smA, smW] at *
  have n2 := fn0_nn (ρ := ρ) Z0
  have n5 := fn0_nn (ρ := ρ) Z1
  obtain ⟨a6, ea6, qa6⟩ := cs_i64 ((E.I ρ Z6) - (E.I ρ Z2))
  try simp only [ea6] at *
  obtain ⟨a7, ea7, qa7⟩ := cs_u64 (E.I ρ (.fn 1 (.pr Z40 (.fn 6 (.pr (.fn 8 (.pr Z41 (.int 4))) (.int 1))))))
  try simp only [ea7] at *
  obtain ⟨a8, ea8, qa8⟩ := cs_rem (E.I ρ (.fn 1 (.pr Z1 Z2))) a7
  try simp only [ea8] at *
  obtain ⟨a9, ea9, qa9⟩ := cs_i64 a8
  try simp only [ea9] at *
  omega
noncomputable def f14 : E := (.imp (.and Z75 (.and Z15 (.and Z3 Z79))) Z80)
theorem fact14 (ρ : Env) : E.B ρ f14 = true := by
  unfold f14
  rw [sm_B_imp]
  simp only [sm_B_and]
  rintro ⟨p0, p1, p2, p3, p4, p5, p6, p7⟩
  have g0 : E.I ρ (.fn 0 Z0) = (0) := by
    have hl2 := t111_len p2
    try simp only [smA, smW] at *
    have n5 := fn0_nn (ρ := ρ) Z1
    have n6 := fn0_nn (ρ := ρ) Z0
    omega
  exact t106_nil (by rw [g0] <;> rfl)
noncomputable def f15 : E := Z83
theorem fact15 (ρ : Env) : E.B ρ f15 = true := by
  unfold f15
  rw [sm_B_imp]
  simp only [sm_B_and]
  rintro ⟨p0, p1⟩
  have g0 : E.I ρ (.fn 6 (.pr Z2 (.fn 7 (.pr Z6 Z2)))) = E.I ρ (.fn 0 Z1) := by
    have hl0 := t111_len p0
    try simp only [smA, smW] at *
    have n2 := fn0_nn (ρ := ρ) Z1
    omega
  have g1 : E.I ρ Z2 = E.I ρ Z2 := rfl
  exact t106_sub p0 g0 g1
noncomputable def f16 : E := (.imp (.and Z3 (.and Z49 Z68)) Z86)
theorem fact16 (ρ : Env) : E.B ρ f16 = true := by
  unfold f16
  rw [sm_B_imp]
  simp only [sm_B_and]
  rintro ⟨p0, p1, p2, p3, p4, p5, p6⟩
  have hl0 := t111_len p0
  have hl1 := t111_len p1
  try simp only [smA, smW] at *
  have n3 := fn0_nn (ρ := ρ) Z1
  obtain ⟨a3, ea3, qa3⟩ := cs_i64 ((E.I ρ Z2) + (1))
  try simp only [ea3] at *
  omega
noncomputable def f17 : E := (.imp Z87 Z31)
theorem fact17 (ρ : Env) : E.B ρ f17 = true := by
  unfold f17
  rw [sm_B_imp]
  simp only [sm_B_and]
  rintro ⟨p0, p1, p2, p3, p4, p5, p6, p7⟩
  have hl0 := t111_len p0
  have hl2 := t111_len p2
  try simp only [smA, smW] at *
  have n1 := fn0_nn (ρ := ρ) Z0
  have n4 := fn0_nn (ρ := ρ) Z1
  obtain ⟨a4, ea4, qa4⟩ := cs_i64 ((E.I ρ Z6) - (E.I ρ Z2))
  try simp only [ea4] at *
  omega
noncomputable def f18 : E := (.imp (.and Z3 (.and Z9 Z68)) Z30)
theorem fact18 (ρ : Env) : E.B ρ f18 = true := by
  unfold f18
  rw [sm_B_imp]
  simp only [sm_B_and]
  rintro ⟨p0, p1, p2, p3, p4, p5, p6⟩
  have hl0 := t111_len p0
  try simp only [smA, smW] at *
  have n1 := fn0_nn (ρ := ρ) Z0
  have n4 := fn0_nn (ρ := ρ) Z1
  obtain ⟨a4, ea4, qa4⟩ := cs_i64 ((E.I ρ Z6) - (E.I ρ Z2))
  try simp only [ea4] at *
  omega
noncomputable def f19 : E := (.imp (.and Z3 (.and Z21 (.and Z16 (.and Z76 (.and Z8 Z88))))) Z9)
theorem fact19 (ρ : Env) : E.B ρ f19 = true := by
  unfold f19
  rw [sm_B_imp]
  simp only [sm_B_and]
  rintro ⟨p0, p1, p2, p3, p4, p5, p6⟩
  have hl0 := t111_len p0
  try simp only [smA, smW] at *
  have n4 := fn0_nn (ρ := ρ) Z1
  have n5 := fn0_nn (ρ := ρ) Z0
  omega
noncomputable def f20 : E := (.imp Z89 Z90)
theorem fact20 (ρ : Env) : E.B ρ f20 = true := by
  unfold f20
  rw [sm_B_imp]
  simp only [sm_B_and]
  rintro ⟨p0, p1, p2, p3, p4, p5⟩
  have hl0 := t111_len p0
  have hs0 := I_sublen (ρ := ρ) (l := Z1) (a := Z2) (b := (.fn 6 (.pr Z2 (.fn 7 (.pr Z6 Z2)))))
  try simp only [smA, smW] at *
  have n3 := fn0_nn (ρ := ρ) Z1
  have n4 := fn0_nn (ρ := ρ) (.fn 4 (.pr Z1 (.pr Z2 (.fn 6 (.pr Z2 (.fn 7 (.pr Z6 Z2)))))))
  omega
noncomputable def f21 : E := (.imp (.and Z3 (.and Z10 (.and Z49 Z24))) Z34)
theorem fact21 (ρ : Env) : E.B ρ f21 = true := by
  unfold f21
  rw [sm_B_imp]
  simp only [sm_B_and]
  rintro ⟨p0, p1, p2, p3, p4, p5, p6⟩
  have hl0 := t111_len p0
  have hl2 := t111_len p2
  try simp only [smA, smW] at *
  have n1 := fn0_nn (ρ := ρ) Z0
  have n4 := fn0_nn (ρ := ρ) Z1
  omega
noncomputable def f22 : E := Z91
theorem fact22 (ρ : Env) : E.B ρ f22 = true := by
  unfold f22
  rw [sm_B_imp]
  intro p0
  try simp only [smA, smW] at *
  omega
noncomputable def f23 : E := Z97
theorem fact23 (ρ : Env) : E.B ρ f23 = true := by
  unfold f23
  rw [sm_B_imp]
  simp only [sm_B_and]
  rintro ⟨p0, p1, p2, p3, p4⟩
  have hl0 := t111_len p0
  try simp only [smA, smW] at *
  have n3 := fn0_nn (ρ := ρ) Z94
  obtain ⟨a3, ea3, qa3⟩ := cs_i64 ((E.I ρ Z93) + (1))
  try simp only [ea3] at *
  omega
noncomputable def f24 : E := Z107
theorem fact24 (ρ : Env) : E.B ρ f24 = true := by
  unfold f24
  rw [sm_B_imp]
  simp only [sm_B_and]
  rintro ⟨p0, p1, p2, p3⟩
  have hl0 := t111_len p0
  try simp only [smA, smW] at *
  obtain ⟨a2, ea2, qa2⟩ := cs_i64 ((E.I ρ Z41) + (1))
  try simp only [ea2] at *
  omega
noncomputable def f25 : E := (.imp (.and Z3 Z108) Z109)
theorem fact25 (ρ : Env) : E.B ρ f25 = true := by
  unfold f25
  rw [sm_B_imp]
  simp only [sm_B_and]
  rintro ⟨p0, p1, p2, p3, p4, p5, p6, p7⟩
  have hl0 := t111_len p0
  try simp only [smA, smW] at *
  have n5 := fn0_nn (ρ := ρ) Z1
  have n6 := fn0_nn (ρ := ρ) Z0
  obtain ⟨a6, ea6, qa6⟩ := cs_i64 ((E.I ρ Z6) - (E.I ρ Z2))
  try simp only [ea6] at *
  omega
noncomputable def f26 : E := (.imp (.and Z3 Z114) Z115)
theorem fact26 (ρ : Env) : E.B ρ f26 = true := by
  unfold f26
  rw [sm_B_imp]
  simp only [sm_B_and]
  rintro ⟨p0, p1, p2, p3, p4, p5, p6, p7⟩
  have hl0 := t111_len p0
  try simp only [smA, smW] at *
  have n4 := fn0_nn (ρ := ρ) Z1
  have n5 := fn0_nn (ρ := ρ) Z0
  omega
noncomputable def f27 : E := Z116
theorem fact27 (ρ : Env) : E.B ρ f27 = true := by
  unfold f27
  rw [sm_B_imp]
  simp only [sm_B_and]
  rintro ⟨p0, p1, p2, p3, p4⟩
  have hl0 := t111_len p0
  try simp only [smA, smW] at *
  have n3 := fn0_nn (ρ := ρ) Z94
  obtain ⟨a3, ea3, qa3⟩ := cs_i64 ((E.I ρ Z93) + (1))
  try simp only [ea3] at *
  omega
noncomputable def f28 : E := Z117
theorem fact28 (ρ : Env) : E.B ρ f28 = true := by
  unfold f28
  rw [sm_B_imp]
  simp only [sm_B_and]
  rintro ⟨p0, p1, p2, p3⟩
  have hl0 := t111_len p0
  try simp only [smA, smW] at *
  obtain ⟨a2, ea2, qa2⟩ := cs_i64 ((E.I ρ Z41) + (1))
  try simp only [ea2] at *
  omega
noncomputable def f29 : E := Z120
theorem fact29 (ρ : Env) : E.B ρ f29 = true := by
  unfold f29
  rw [sm_B_imp]
  simp only [sm_B_and]
  rintro ⟨p0, p1, p2, p3, p4⟩
  have hl0 := t111_len p0
  try simp only [smA, smW] at *
  have n3 := fn0_nn (ρ := ρ) Z1
  omega
noncomputable def f30 : E := Z121
theorem fact30 (ρ : Env) : E.B ρ f30 = true := by
  unfold f30
  rw [sm_B_imp]
  simp only [sm_B_and]
  rintro ⟨p0, p1, p2, p3, p4⟩
  have hl0 := t111_len p0
  try simp only [smA, smW] at *
  have n3 := fn0_nn (ρ := ρ) Z94
  obtain ⟨a3, ea3, qa3⟩ := cs_i64 ((E.I ρ Z93) + (1))
  try simp only [ea3] at *
  omega
noncomputable def f31 : E := Z122
theorem fact31 (ρ : Env) : E.B ρ f31 = true := by
  unfold f31
  rw [sm_B_imp]
  simp only [sm_B_and]
  rintro ⟨p0, p1, p2, p3⟩
  have hl0 := t111_len p0
  try simp only [smA, smW] at *
  obtain ⟨a2, ea2, qa2⟩ := cs_i64 ((E.I ρ Z41) + (1))
  try simp only [ea2] at *
  omega
noncomputable def f32 : E := (.imp (.and Z3 Z114) Z109)
theorem fact32 (ρ : Env) : E.B ρ f32 = true := by
  unfold f32
  rw [sm_B_imp]
  simp only [sm_B_and]
  rintro ⟨p0, p1, p2, p3, p4, p5, p6, p7⟩
  have hl0 := t111_len p0
  try simp only [smA, smW] at *
  have n4 := fn0_nn (ρ := ρ) Z1
  have n5 := fn0_nn (ρ := ρ) Z0
  obtain ⟨a5, ea5, qa5⟩ := cs_i64 ((E.I ρ Z6) - (E.I ρ Z2))
  try simp only [ea5] at *
  omega
noncomputable def f33 : E := (.imp (.and Z9 Z3) Z80)
theorem fact33 (ρ : Env) : E.B ρ f33 = true := by
  unfold f33
  rw [sm_B_imp]
  simp only [sm_B_and]
  rintro ⟨p0, p1⟩
  have g0 : E.I ρ (.fn 0 Z0) = (0) := by
    have hl1 := t111_len p1
    try simp only [smA, smW] at *
    have n1 := fn0_nn (ρ := ρ) Z0
    omega
  exact t106_nil (by rw [g0] <;> rfl)
noncomputable def f34 : E := Z123
theorem fact34 (ρ : Env) : E.B ρ f34 = true := by
  unfold f34
  rw [sm_B_imp]
  simp only [sm_B_and]
  rintro ⟨p0, p1, p2, p3, p4⟩
  have hl0 := t111_len p0
  try simp only [smA, smW] at *
  have n3 := fn0_nn (ρ := ρ) Z94
  obtain ⟨a3, ea3, qa3⟩ := cs_i64 ((E.I ρ Z93) + (1))
  try simp only [ea3] at *
  omega
noncomputable def f35 : E := Z124
theorem fact35 (ρ : Env) : E.B ρ f35 = true := by
  unfold f35
  rw [sm_B_imp]
  simp only [sm_B_and]
  rintro ⟨p0, p1, p2, p3⟩
  have hl0 := t111_len p0
  try simp only [smA, smW] at *
  obtain ⟨a2, ea2, qa2⟩ := cs_i64 ((E.I ρ Z41) + (1))
  try simp only [ea2] at *
  omega
noncomputable def f36 : E := (.imp Z87 Z125)
theorem fact36 (ρ : Env) : E.B ρ f36 = true := by
  unfold f36
  rw [sm_B_imp]
  simp only [sm_B_and]
  rintro ⟨p0, p1, p2, p3, p4, p5, p6, p7⟩
  have hl0 := t111_len p0
  have hl2 := t111_len p2
  try simp only [smA, smW] at *
  have n1 := fn0_nn (ρ := ρ) Z0
  have n4 := fn0_nn (ρ := ρ) Z1
  obtain ⟨a4, ea4, qa4⟩ := cs_i64 ((E.I ρ Z2) + (1))
  try simp only [ea4] at *
  omega
noncomputable def f37 : E := (.imp (.and Z3 (.and Z9 (.and Z75 (.and Z15 (.and Z21 Z76))))) Z109)
theorem fact37 (ρ : Env) : E.B ρ f37 = true := by
  unfold f37
  rw [sm_B_imp]
  simp only [sm_B_and]
  rintro ⟨p0, p1, p2, p3, p4, p5⟩
  have hl0 := t111_len p0
  try simp only [smA, smW] at *
  have n1 := fn0_nn (ρ := ρ) Z0
  obtain ⟨a5, ea5, qa5⟩ := cs_i64 ((E.I ρ Z6) - (E.I ρ Z2))
  try simp only [ea5] at *
  omega
noncomputable def f38 : E := (.imp (.and Z3 (.and Z10 (.and Z49 (.and Z127 Z68)))) (.not (.cmp .lss (.fn 7 (.pr Z6 Z84)) (.int 0))))
theorem fact38 (ρ : Env) : E.B ρ f38 = true := by
  unfold f38
  rw [sm_B_imp]
  simp only [sm_B_and]
  rintro ⟨p0, p1, p2, p3, p4, p5, p6, p7, p8⟩
  have hl0 := t111_len p0
  have hl2 := t111_len p2
  try simp only [smA, smW] at *
  have n1 := fn0_nn (ρ := ρ) Z0
  have n5 := fn0_nn (ρ := ρ) Z1
  obtain ⟨a5, ea5, qa5⟩ := cs_i64 ((E.I ρ Z2) + (1))
  try simp only [ea5] at *
  omega
noncomputable def f39 : E := (.imp Z130 (.not (.cmp .lss (.int 2147483648) (.fn 7 (.pr Z6 Z84)))))
theorem fact39 (ρ : Env) : E.B ρ f39 = true := by
  unfold f39
  rw [sm_B_imp]
  simp only [sm_B_and]
  rintro ⟨p0, p1, p2, p3, p4, p5, p6, p7, p8⟩
  have hl0 := t111_len p0
  have hl1 := t111_len p1
  try simp only [smA, smW] at *
  have n4 := fn0_nn (ρ := ρ) Z1
  obtain ⟨a4, ea4, qa4⟩ := cs_i64 ((E.I ρ Z2) + (1))
  try simp only [ea4] at *
  omega
noncomputable def f40 : E := (.imp Z3 (.not (.cmp .lss Z6 (.fn 6 (.pr Z84 (.fn 7 (.pr Z6 Z84)))))))
theorem fact40 (ρ : Env) : E.B ρ f40 = true := by
  unfold f40
  rw [sm_B_imp]
  intro p0
  have hl0 := t111_len p0
  try simp only [smA, smW] at *
  obtain ⟨a2, ea2, qa2⟩ := cs_i64 ((E.I ρ Z2) + (1))
  try simp only [ea2] at *
  omega
noncomputable def f41 : E := (.imp (.and Z10 (.and Z49 (.and Z126 (.and Z3 Z113)))) Z132)
theorem fact41 (ρ : Env) : E.B ρ f41 = true := by
  unfold f41
  rw [sm_B_imp]
  simp only [sm_B_and]
  rintro ⟨p0, p1, p2, p3, p4, p5, p6, p7, p8, p9⟩
  have g0 : E.I ρ (.fn 0 Z48) = (0) := by
    have hl1 := t111_len p1
    have hl3 := t111_len p3
    try simp only [smA, smW] at *
    have n1 := fn0_nn (ρ := ρ) Z0
    have n5 := fn0_nn (ρ := ρ) Z1
    have n6 := fn0_nn (ρ := ρ) Z48
    obtain ⟨a6, ea6, qa6⟩ := cs_i64 ((E.I ρ Z2) + (1))
    try simp only [ea6] at *
    omega
  exact t106_nil (by rw [g0] <;> rfl)
noncomputable def f42 : E := (.imp (.and Z49 (.and Z127 (.and Z3 Z113))) (.fn 106 (.pr (.fn 4 (.pr Z1 (.pr Z84 (.fn 6 (.pr Z84 (.fn 7 (.pr Z6 Z84))))))) Z48)))
theorem fact42 (ρ : Env) : E.B ρ f42 = true := by
  unfold f42
  rw [sm_B_imp]
  simp only [sm_B_and]
  rintro ⟨p0, p1, p2, p3, p4, p5, p6, p7, p8⟩
  obtain ⟨g0, g1, g2, g3⟩ : (0) ≤ (1) ∧ (0) ≤ E.I ρ Z2 ∧ E.I ρ Z84 = E.I ρ (.fn 6 (.pr Z2 (.int 1))) ∧ E.I ρ (.fn 6 (.pr Z84 (.fn 7 (.pr Z6 Z84)))) = E.I ρ (.fn 0 Z1) := by
    have hl0 := t111_len p0
    have hl2 := t111_len p2
    try simp only [smA, smW] at *
    have n4 := fn0_nn (ρ := ρ) Z1
    obtain ⟨a4, ea4, qa4⟩ := cs_i64 ((E.I ρ Z2) + (1))
    try simp only [ea4] at *
    omega
  exact t106_sub (t111_trans p0 p2 (by (try simp only [sm_I_int]); omega) (by (try simp only [sm_I_int]); omega) g2) g3 rfl
noncomputable def f43 : E := (.imp (.and Z15 (.and Z3 (.and Z21 (.and Z16 (.and Z76 (.and Z7 (.and Z8 (.and Z10 (.and Z55 (.and Z49 (.and Z126 Z11))))))))))) Z133)
theorem fact43 (ρ : Env) : E.B ρ f43 = true := by
  unfold f43
  rw [sm_B_imp]
  simp only [sm_B_and]
  rintro ⟨p0, p1, p2, p3, p4, p5, p6, p7, p8, p9, p10, p11⟩
  have hl1 := t111_len p1
  have hl9 := t111_len p9
  try simp only [smA, smW] at *
  have n5 := fn0_nn (ρ := ρ) Z1
  have n6 := fn0_nn (ρ := ρ) Z0
  have n8 := fn0_nn (ρ := ρ) Z48
  obtain ⟨a8, ea8, qa8⟩ := cs_i64 ((E.I ρ Z2) + (1))
  try simp only [ea8] at *
  omega
noncomputable def f44 : E := (.imp Z135 (.cmp .eql (.fn 7 (.pr Z6 Z84)) (.fn 0 (.fn 4 (.pr Z1 (.pr Z84 (.fn 6 (.pr Z84 (.fn 7 (.pr Z6 Z84))))))))))
theorem fact44 (ρ : Env) : E.B ρ f44 = true := by
  unfold f44
  rw [sm_B_imp]
  simp only [sm_B_and]
  rintro ⟨p0, p1, p2, p3, p4, p5, p6, p7, p8, p9⟩
  have hl0 := t111_len p0
  have hl2 := t111_len p2
  have hs0 := I_sublen (ρ := ρ) (l := Z1) (a := Z84) (b := (.fn 6 (.pr Z84 (.fn 7 (.pr Z6 Z84)))))
  try simp only [smA, smW] at *
  have n1 := fn0_nn (ρ := ρ) Z0
  have n5 := fn0_nn (ρ := ρ) Z1
  have n6 := fn0_nn (ρ := ρ) (.fn 4 (.pr Z1 (.pr Z84 (.fn 6 (.pr Z84 (.fn 7 (.pr Z6 Z84)))))))
  obtain ⟨a6, ea6, qa6⟩ := cs_i64 ((E.I ρ Z2) + (1))
  try simp only [ea6] at *
  omega
noncomputable def f45 : E := (.imp (.and Z55 (.and Z49 (.and (.cmp .eql Z84 Z54) (.and Z15 (.and Z3 Z16))))) (.fn 111 (.pr Z48 (.pr Z1 Z84))))
theorem fact45 (ρ : Env) : E.B ρ f45 = true := by
  unfold f45
  rw [sm_B_imp]
  simp only [sm_B_and]
  rintro ⟨p0, p1, p2, p3, p4, p5⟩
  obtain ⟨g0, g1, g2⟩ : (0) ≤ (1) ∧ (0) ≤ E.I ρ Z2 ∧ E.I ρ Z84 = E.I ρ (.fn 6 (.pr Z2 (.int 1))) := by
    have hl1 := t111_len p1
    have hl4 := t111_len p4
    try simp only [smA, smW] at *
    obtain ⟨a3, ea3, qa3⟩ := cs_i64 ((E.I ρ Z2) + (1))
    try simp only [ea3] at *
    omega
  exact t111_trans p1 p4 (by (try simp only [sm_I_int]); omega) (by (try simp only [sm_I_int]); omega) g2
noncomputable def f46 : E := (.imp (.and Z3 (.and Z10 (.and Z49 (.and Z126 Z113)))) Z136)
theorem fact46 (ρ : Env) : E.B ρ f46 = true := by
  unfold f46
  rw [sm_B_imp]
  simp only [sm_B_and]
  rintro ⟨p0, p1, p2, p3, p4, p5, p6, p7, p8, p9⟩
  have hl0 := t111_len p0
  have hl2 := t111_len p2
  try simp only [smA, smW] at *
  have n1 := fn0_nn (ρ := ρ) Z0
  have n5 := fn0_nn (ρ := ρ) Z1
  have n6 := fn0_nn (ρ := ρ) Z48
  obtain ⟨a6, ea6, qa6⟩ := cs_i64 ((E.I ρ Z2) + (1))
  try simp only [ea6] at *
  obtain ⟨a7, ea7, qa7⟩ := cs_i64 ((E.I ρ Z6) - a6)
  try simp only [ea7] at *
  omega
noncomputable def f47 : E := (.imp Z135 (.cmp .eql (.fn 7 (.pr Z6 Z84)) (.fn 0 Z48)))
theorem fact47 (ρ : Env) : E.B ρ f47 = true := by
  unfold f47
  rw [sm_B_imp]
  simp only [sm_B_and]
  rintro ⟨p0, p1, p2, p3, p4, p5, p6, p7, p8, p9⟩
  have hl0 := t111_len p0
  have hl2 := t111_len p2
  try simp only [smA, smW] at *
  have n1 := fn0_nn (ρ := ρ) Z0
  have n5 := fn0_nn (ρ := ρ) Z1
  have n6 := fn0_nn (ρ := ρ) Z48
  obtain ⟨a6, ea6, qa6⟩ := cs_i64 ((E.I ρ Z2) + (1))
  try simp only [ea6] at *
  omega
noncomputable def f48 : E := (.imp Z138 (.cmp .eql Z84 Z54))
theorem fact48 (ρ : Env) : E.B ρ f48 = true := by
  unfold f48
  rw [sm_B_imp]
  simp only [sm_B_and]
  rintro ⟨p0, p1, p2, p3, p4, p5, p6, p7, p8⟩
  have hl0 := t111_len p0
  have hl2 := t111_len p2
  try simp only [smA, smW] at *
  have n5 := fn0_nn (ρ := ρ) Z1
  obtain ⟨a5, ea5, qa5⟩ := cs_i64 ((E.I ρ Z2) + (1))
  try simp only [ea5] at *
  omega
noncomputable def f49 : E := (.imp Z130 (.not (.cmp .lss (.int 300) (.fn 7 (.pr Z6 Z84)))))
theorem fact49 (ρ : Env) : E.B ρ f49 = true := by
  unfold f49
  rw [sm_B_imp]
  simp only [sm_B_and]
  rintro ⟨p0, p1, p2, p3, p4, p5, p6, p7, p8⟩
  have hl0 := t111_len p0
  have hl1 := t111_len p1
  try simp only [smA, smW] at *
  have n4 := fn0_nn (ρ := ρ) Z1
  obtain ⟨a4, ea4, qa4⟩ := cs_i64 ((E.I ρ Z2) + (1))
  try simp only [ea4] at *
  omega
noncomputable def f50 : E := (.imp (.and Z49 Z89) (.fn 111 (.pr Z48 (.pr Z1 Z84))))
theorem fact50 (ρ : Env) : E.B ρ f50 = true := by
  unfold f50
  rw [sm_B_imp]
  simp only [sm_B_and]
  rintro ⟨p0, p1, p2, p3, p4, p5, p6⟩
  obtain ⟨g0, g1, g2⟩ : (0) ≤ (1) ∧ (0) ≤ E.I ρ Z2 ∧ E.I ρ Z84 = E.I ρ (.fn 6 (.pr Z2 (.int 1))) := by
    have hl0 := t111_len p0
    have hl1 := t111_len p1
    try simp only [smA, smW] at *
    have n3 := fn0_nn (ρ := ρ) Z1
    obtain ⟨a3, ea3, qa3⟩ := cs_i64 ((E.I ρ Z2) + (1))
    try simp only [ea3] at *
    omega
  exact t111_trans p0 p1 (by (try simp only [sm_I_int]); omega) (by (try simp only [sm_I_int]); omega) g2
noncomputable def f51 : E := (.imp Z135 Z136)
theorem fact51 (ρ : Env) : E.B ρ f51 = true := by
  unfold f51
  rw [sm_B_imp]
  simp only [sm_B_and]
  rintro ⟨p0, p1, p2, p3, p4, p5, p6, p7, p8, p9⟩
  have hl0 := t111_len p0
  have hl2 := t111_len p2
  try simp only [smA, smW] at *
  have n1 := fn0_nn (ρ := ρ) Z0
  have n5 := fn0_nn (ρ := ρ) Z1
  have n6 := fn0_nn (ρ := ρ) Z48
  obtain ⟨a6, ea6, qa6⟩ := cs_i64 ((E.I ρ Z2) + (1))
  try simp only [ea6] at *
  obtain ⟨a7, ea7, qa7⟩ := cs_i64 ((E.I ρ Z6) - a6)
  try simp only [ea7] at *
  omega
noncomputable def f52 : E := (.imp Z138 (.cmp .eql Z54 Z84))
theorem fact52 (ρ : Env) : E.B ρ f52 = true := by
  unfold f52
  rw [sm_B_imp]
  simp only [sm_B_and]
  rintro ⟨p0, p1, p2, p3, p4, p5, p6, p7, p8⟩
  have hl0 := t111_len p0
  have hl2 := t111_len p2
  try simp only [smA, smW] at *
  have n5 := fn0_nn (ρ := ρ) Z1
  obtain ⟨a5, ea5, qa5⟩ := cs_i64 ((E.I ρ Z2) + (1))
  try simp only [ea5] at *
  omega
noncomputable def facts : List E := [f0, f1, f2, f3, f4, f5, f6, f7, f8, f9, f10, f11, f12, f13, f14, f15, f16, f17, f18, f19, f20, f21, f22, f23, f24, f25, f26, f27, f28, f29, f30, f31, f32, f33, f34, f35, f36, f37, f38, f39, f40, f41, f42, f43, f44, f45, f46, f47, f48, f49, f50, f51, f52]
theorem facts_ok : ∀ e ∈ facts, ∀ ρ : Env, E.B ρ e = true := (all_cons fact0 (all_cons fact1 (all_cons fact2 (all_cons fact3 (all_cons fact4 (all_cons fact5 (all_cons fact6 (all_cons fact7 (all_cons fact8 (all_cons fact9 (all_cons fact10 (all_cons fact11 (all_cons fact12 (all_cons fact13 (all_cons fact14 (all_cons fact15 (all_cons fact16 (all_cons fact17 (all_cons fact18 (all_cons fact19 (all_cons fact20 (all_cons fact21 (all_cons fact22 (all_cons fact23 (all_cons fact24 (all_cons fact25 (all_cons fact26 (all_cons fact27 (all_cons fact28 (all_cons fact29 (all_cons fact30 (all_cons fact31 (all_cons fact32 (all_cons fact33 (all_cons fact34 (all_cons fact35 (all_cons fact36 (all_cons fact37 (all_cons fact38 (all_cons fact39 (all_cons fact40 (all_cons fact41 (all_cons fact42 (all_cons fact43 (all_cons fact44 (all_cons fact45 (all_cons fact46 (all_cons fact47 (all_cons fact48 (all_cons fact49 (all_cons fact50 (all_cons fact51 (all_cons fact52 all_nil)))))))))))))))))))))))))))))))))))))))))))))))))))))
end l0_0
set_option maxRecDepth 100000 in
theorem body0_0_0 : BodyOk Try.prog (annG (some yG)) yG (tG).less (tG).tmps { (tG).st with pc := (what 0) :: (tG).st.pc } :=
  body_of_check good (facts := l0_0.facts) l0_0.facts_ok (anns := [annH]) (plainAnns_ok _ (by kernel_rfl)) (nats := natl11) natl11_ok (n := 3000) (by kernel_rfl) (by kernel_rfl)
namespace l0_1
noncomputable def f0 : E := (.imp (.and Z139 Z140) (.not (.cmp .eql Z54 (.int 0))))
theorem fact0 (ρ : Env) : E.B ρ f0 = true := by
  unfold f0
  rw [sm_B_imp]
  simp only [sm_B_and]
  rintro ⟨p0, p1⟩
  try simp only [smA, smW] at *
  omega
noncomputable def f1 : E := (.imp (.and (.cmp .eql Z141 (.fn 1 (.pr Z40 (.fn 6 (.pr (.fn 8 (.pr Z41 (.int 4))) (.int 2)))))) Z140) (.not (.cmp .eql Z141 (.int 0))))
theorem fact1 (ρ : Env) : E.B ρ f1 = true := by
  unfold f1
  rw [sm_B_imp]
  simp only [sm_B_and]
  rintro ⟨p0, p1⟩
  try simp only [smA, smW] at *
  omega
noncomputable def f2 : E := (.imp (.and Z143 Z140) (.not (.cmp .eql Z142 (.int 0))))
theorem fact2 (ρ : Env) : E.B ρ f2 = true := by
  unfold f2
  rw [sm_B_imp]
  simp only [sm_B_and]
  rintro ⟨p0, p1⟩
  try simp only [smA, smW] at *
  omega
noncomputable def f3 : E := (.imp (.and Z145 Z144) Z146)
theorem fact3 (ρ : Env) : E.B ρ f3 = true := by
  unfold f3
  rw [sm_B_imp]
  simp only [sm_B_and]
  rintro ⟨p0, p1⟩
  have hb0 := t132_not p0
  have hb1 := t132_yes p1
  try simp only [smA, smW] at *
  omega
noncomputable def f4 : E := (.imp (.and Z140 Z147) Z146)
theorem fact4 (ρ : Env) : E.B ρ f4 = true := by
  unfold f4
  rw [sm_B_imp]
  simp only [sm_B_and]
  rintro ⟨p0, p1⟩
  try simp only [smA, smW] at *
  omega
noncomputable def f5 : E := Z5
theorem fact5 (ρ : Env) : E.B ρ f5 = true := by
  unfold f5
  rw [sm_B_imp]
  simp only [sm_B_and]
  rintro ⟨p0, p1⟩
  exact (t131_drop p0 p1)
noncomputable def f6 : E := (.imp (.and Z3 (.and Z7 (.and Z8 (.and Z148 (.and Z149 Z11))))) Z13)
theorem fact6 (ρ : Env) : E.B ρ f6 = true := by
  unfold f6
  rw [sm_B_imp]
  simp only [sm_B_and]
  rintro ⟨p0, p1, p2, p3, p4, p5⟩
  have hl0 := t111_len p0
  try simp only [smA, smW] at *
  have n2 := fn0_nn (ρ := ρ) Z1
  have n4 := fn0_nn (ρ := ρ) Z0
  omega
noncomputable def f7 : E := Z20
theorem fact7 (ρ : Env) : E.B ρ f7 = true := by
  unfold f7
  rw [sm_B_imp]
  simp only [sm_B_and]
  rintro ⟨p0, p1, p2⟩
  have hl0 := t111_len p0
  try simp only [smA, smW] at *
  omega
noncomputable def f8 : E := (.imp (.and Z3 (.and Z148 (.and Z149 Z137))) Z151)
theorem fact8 (ρ : Env) : E.B ρ f8 = true := by
  unfold f8
  rw [sm_B_imp]
  simp only [sm_B_and]
  rintro ⟨p0, p1, p2, p3, p4, p5, p6, p7, p8⟩
  have hl0 := t111_len p0
  try simp only [smA, smW] at *
  have n5 := fn0_nn (ρ := ρ) Z1
  have n6 := fn0_nn (ρ := ρ) Z0
  omega
noncomputable def f9 : E := (.imp (.and Z99 (.and Z3 (.and Z153 (.and Z101 (.and Z149 Z102))))) (.fn 133 (.fn 1 (.pr Z40 (.fn 6 (.pr (.fn 8 (.pr Z41 (.int 4))) (.int 1)))))))
theorem fact9 (ρ : Env) : E.B ρ f9 = true := by
  unfold f9
  rw [sm_B_imp]
  simp only [sm_B_and]
  rintro ⟨p0, p1, p2, p3, p4, p5⟩
  obtain ⟨b0, b1⟩ : (0) ≤ E.I ρ Z41 ∧ E.I ρ Z41 < E.I ρ Z152 := by
    have hl1 := t111_len p1
    try simp only [smA, smW] at *
    omega
  have hrow := (t130_get (i := Z41) p2 (by (try simp only [sm_I_int]); omega) b1).2
  rw [sm_B_eql] at p4
  rw [z133]
  simp only [sm_I_int] at *
  have hq := fun h => hrow ⟨p4, h⟩
  omega
noncomputable def f10 : E := (.imp Z156 (.not Z147))
theorem fact10 (ρ : Env) : E.B ρ f10 = true := by
  unfold f10
  rw [sm_B_imp]
  simp only [sm_B_and]
  rintro ⟨p0, p1, p2, p3, p4⟩
  have hl0 := t111_len p0
  have hb1 := t132_yes p1
  have hb2 := t132_not p2
  try simp only [smA, smW] at *
  omega
noncomputable def f11 : E := (.imp Z156 Z157)
theorem fact11 (ρ : Env) : E.B ρ f11 = true := by
  unfold f11
  rw [sm_B_imp]
  simp only [sm_B_and]
  rintro ⟨p0, p1, p2, p3, p4⟩
  have hl0 := t111_len p0
  have hb1 := t132_yes p1
  have hb2 := t132_not p2
  try simp only [smA, smW] at *
  omega
noncomputable def f12 : E := (.imp (.and Z3 (.and Z144 Z25)) Z27)
theorem fact12 (ρ : Env) : E.B ρ f12 = true := by
  unfold f12
  rw [sm_B_imp]
  simp only [sm_B_and]
  rintro ⟨p0, p1, p2, p3⟩
  have hl0 := t111_len p0
  have hb1 := t132_yes p1
  try simp only [smA, smW] at *
  have n3 := fn0_nn (ρ := ρ) Z1
  omega
noncomputable def f13 : E := (.imp (.and Z3 (.and Z145 (.and Z158 (.and (.cmp .eql Z54 (.fn 0 Z48)) (.and Z139 Z140))))) (.not (.cmp .lss Z54 (.int 0))))
theorem fact13 (ρ : Env) : E.B ρ f13 = true := by
  unfold f13
  rw [sm_B_imp]
  simp only [sm_B_and]
  rintro ⟨p0, p1, p2, p3, p4, p5⟩
  have hl0 := t111_len p0
  have hb1 := t132_not p1
  try simp only [smA, smW] at *
  have n5 := fn0_nn (ρ := ρ) Z48
  omega
noncomputable def f14 : E := (.imp (.and Z15 (.and Z3 (.and Z16 Z162))) (.not (.cmp .lss Z141 (.int 0))))
theorem fact14 (ρ : Env) : E.B ρ f14 = true := by
  unfold f14
  rw [sm_B_imp]
  simp only [sm_B_and]
  rintro ⟨p0, p1, p2, p3, p4, p5⟩
  have hl1 := t111_len p1
  have hl4 := t111_len p4
  try simp only [smA, smW] at *
  omega
noncomputable def f15 : E := (.imp (.and Z3 (.and Z160 (.and Z145 (.and Z147 Z25)))) Z157)
theorem fact15 (ρ : Env) : E.B ρ f15 = true := by
  unfold f15
  rw [sm_B_imp]
  simp only [sm_B_and]
  rintro ⟨p0, p1, p2, p3, p4, p5⟩
  have hl0 := t111_len p0
  have hl1 := t111_len p1
  have hb2 := t132_not p2
  try simp only [smA, smW] at *
  have n4 := fn0_nn (ρ := ρ) Z1
  omega
noncomputable def f16 : E := (.imp (.and Z15 (.and Z3 (.and Z163 (.and Z164 (.and Z165 (.and Z143 Z140)))))) (.not (.cmp .lss Z142 (.int 0))))
theorem fact16 (ρ : Env) : E.B ρ f16 = true := by
  unfold f16
  rw [sm_B_imp]
  simp only [sm_B_and]
  rintro ⟨p0, p1, p2, p3, p4, p5, p6⟩
  have hl1 := t111_len p1
  have hl3 := t111_len p3
  try simp only [smA, smW] at *
  have n6 := fn0_nn (ρ := ρ) Z141
  omega
noncomputable def f17 : E := (.imp (.and (.fn 102 (.pr Z141 (.pr (.fn 1 (.pr Z40 (.fn 6 (.pr (.fn 8 (.pr Z41 (.int 4))) (.int 2))))) (.pr (.fn 1 (.pr Z40 (.fn 6 (.pr (.fn 8 (.pr Z41 (.int 4))) (.int 1))))) (.pr Z0 (.int 0)))))) (.and (.fn 102 (.pr Z166 (.pr (.fn 1 (.pr Z40 (.fn 6 (.pr (.fn 8 (.pr Z41 (.int 4))) (.int 2))))) (.pr (.fn 1 (.pr Z40 (.fn 6 (.pr (.fn 8 (.pr Z41 (.int 4))) (.int 1))))) (.pr Z1 Z2))))) Z3)) (.fn 106 (.pr Z166 Z141)))
theorem fact17 (ρ : Env) : E.B ρ f17 = true := by
  unfold f17
  rw [sm_B_imp]
  simp only [sm_B_and]
  rintro ⟨p0, p1, p2⟩
  exact t106_pick p1 p0 p2
noncomputable def f18 : E := (.imp (.and Z3 (.and Z144 Z36)) Z38)
theorem fact18 (ρ : Env) : E.B ρ f18 = true := by
  unfold f18
  rw [sm_B_imp]
  simp only [sm_B_and]
  rintro ⟨p0, p1, p2, p3, p4, p5⟩
  have hl0 := t111_len p0
  have hb1 := t132_yes p1
  try simp only [smA, smW] at *
  have n3 := fn0_nn (ρ := ρ) Z1
  omega
noncomputable def f19 : E := (.imp (.and Z3 (.and Z145 (.and Z167 (.and Z158 (.and (.cmp .eql Z54 (.fn 0 Z48)) (.and Z139 (.and Z15 (.and Z21 (.and Z16 Z170))))))))) Z146)
theorem fact19 (ρ : Env) : E.B ρ f19 = true := by
  unfold f19
  rw [sm_B_imp]
  simp only [sm_B_and]
  rintro ⟨p0, p1, p2, p3, p4, p5, p6, p7, p8, p9, p10, p11, p12, p13⟩
  have hl0 := t111_len p0
  have hb1 := t132_not p1
  try simp only [smA, smW] at *
  have n1 := fn0_nn (ρ := ρ) Z0
  have n6 := fn0_nn (ρ := ρ) Z48
  have n9 := fn0_nn (ρ := ρ) Z1
  omega
noncomputable def f20 : E := (.imp (.and Z3 Z167) (.not Z147))
theorem fact20 (ρ : Env) : E.B ρ f20 = true := by
  unfold f20
  rw [sm_B_imp]
  simp only [sm_B_and]
  rintro ⟨p0, p1⟩
  have hl0 := t111_len p0
  try simp only [smA, smW] at *
  have n1 := fn0_nn (ρ := ρ) Z0
  omega
noncomputable def f21 : E := (.imp (.and Z3 (.and Z145 Z25)) Z27)
theorem fact21 (ρ : Env) : E.B ρ f21 = true := by
  unfold f21
  rw [sm_B_imp]
  simp only [sm_B_and]
  rintro ⟨p0, p1, p2, p3⟩
  have hl0 := t111_len p0
  have hb1 := t132_not p1
  try simp only [smA, smW] at *
  have n3 := fn0_nn (ρ := ρ) Z1
  omega
noncomputable def f22 : E := (.imp Z172 (.not (.cmp .lss Z6 Z141)))
theorem fact22 (ρ : Env) : E.B ρ f22 = true := by
  unfold f22
  rw [sm_B_imp]
  simp only [sm_B_and]
  rintro ⟨p0, p1, p2, p3, p4, p5⟩
  have hl0 := t111_len p0
  have hl1 := t111_len p1
  have hb2 := t132_not p2
  try simp only [smA, smW] at *
  have n4 := fn0_nn (ρ := ρ) Z1
  omega
noncomputable def f23 : E := (.imp (.and Z15 (.and Z3 (.and Z163 (.and Z164 (.and Z165 (.and Z143 (.and Z145 (.and Z173 Z174)))))))) (.cmp .eql (.var 23) Z142))
theorem fact23 (ρ : Env) : E.B ρ f23 = true := by
  unfold f23
  rw [sm_B_imp]
  simp only [sm_B_and]
  rintro ⟨p0, p1, p2, p3, p4, p5, p6, p7, p8⟩
  have hl1 := t111_len p1
  have hl3 := t111_len p3
  have hb6 := t132_not p6
  try simp only [smA, smW] at *
  have n6 := fn0_nn (ρ := ρ) Z141
  have n8 := fn0_nn (ρ := ρ) Z166
  omega
noncomputable def f24 : E := Z47
theorem fact24 (ρ : Env) : E.B ρ f24 = true := by
  unfold f24
  rw [sm_B_imp]
  intro p0
  have hl0 := t111_len p0
  try simp only [smA, smW] at *
  omega
noncomputable def f25 : E := (.imp (.and Z3 (.and Z145 (.and Z167 (.and Z146 (.and Z15 Z8))))) Z38)
theorem fact25 (ρ : Env) : E.B ρ f25 = true := by
  unfold f25
  rw [sm_B_imp]
  simp only [sm_B_and]
  rintro ⟨p0, p1, p2, p3, p4, p5⟩
  have hl0 := t111_len p0
  have hb1 := t132_not p1
  try simp only [smA, smW] at *
  have n1 := fn0_nn (ρ := ρ) Z0
  have n6 := fn0_nn (ρ := ρ) Z1
  omega
noncomputable def f26 : E := (.imp Z172 (.not (.cmp .lss (.fn 7 (.pr Z6 Z141)) (.int 0))))
theorem fact26 (ρ : Env) : E.B ρ f26 = true := by
  unfold f26
  rw [sm_B_imp]
  simp only [sm_B_and]
  rintro ⟨p0, p1, p2, p3, p4, p5⟩
  have hl0 := t111_len p0
  have hl1 := t111_len p1
  have hb2 := t132_not p2
  try simp only [smA, smW] at *
  have n4 := fn0_nn (ρ := ρ) Z1
  omega
noncomputable def f27 : E := (.imp (.and Z15 (.and Z3 (.and Z16 (.and Z7 (.and Z8 (.and Z163 (.and Z164 (.and Z165 (.and Z143 (.and Z145 (.and Z176 (.and Z173 (.and Z174 (.and Z157 Z11)))))))))))))) (.not (.cmp .lss (.int 300) (.var 23))))
theorem fact27 (ρ : Env) : E.B ρ f27 = true := by
  unfold f27
  rw [sm_B_imp]
  simp only [sm_B_and]
  rintro ⟨p0, p1, p2, p3, p4, p5, p6, p7, p8, p9, p10, p11, p12, p13, p14⟩
  have hl1 := t111_len p1
  have hl6 := t111_len p6
  have hb9 := t132_not p9
  try simp only [smA, smW] at *
  have n4 := fn0_nn (ρ := ρ) Z1
  have n8 := fn0_nn (ρ := ρ) Z141
  have n11 := fn0_nn (ρ := ρ) Z166
  omega
noncomputable def f28 : E := (.imp (.and Z144 Z183) Z80)
theorem fact28 (ρ : Env) : E.B ρ f28 = true := by
  unfold f28
  rw [sm_B_imp]
  simp only [sm_B_and]
  rintro ⟨p0, p1, p2, p3, p4, p5, p6, p7, p8, p9, p10⟩
  have g0 : E.I ρ (.fn 0 Z0) = (0) := by
    have hb0 := t132_yes p0
    have hl3 := t111_len p3
    try simp only [smA, smW] at *
    have n5 := fn0_nn (ρ := ρ) Z1
    have n7 := fn0_nn (ρ := ρ) Z0
    omega
  exact t106_nil (by rw [g0] <;> rfl)
noncomputable def f29 : E := (.imp (.and Z144 (.and Z3 Z8)) Z82)
theorem fact29 (ρ : Env) : E.B ρ f29 = true := by
  unfold f29
  rw [sm_B_imp]
  simp only [sm_B_and]
  rintro ⟨p0, p1, p2⟩
  have g0 : E.I ρ (.fn 6 (.pr Z2 (.fn 7 (.pr Z6 Z2)))) = E.I ρ (.fn 0 Z1) := by
    have hb0 := t132_yes p0
    have hl1 := t111_len p1
    try simp only [smA, smW] at *
    have n2 := fn0_nn (ρ := ρ) Z1
    omega
  have g1 : E.I ρ Z2 = E.I ρ Z2 := rfl
  exact t106_sub p1 g0 g1
noncomputable def f30 : E := (.imp Z185 (.not (.cmp .lss (.int 2147483648) (.fn 7 (.pr Z6 Z141)))))
theorem fact30 (ρ : Env) : E.B ρ f30 = true := by
  unfold f30
  rw [sm_B_imp]
  simp only [sm_B_and]
  rintro ⟨p0, p1, p2, p3, p4, p5, p6, p7⟩
  have hl0 := t111_len p0
  have hl1 := t111_len p1
  have hb2 := t132_not p2
  try simp only [smA, smW] at *
  have n4 := fn0_nn (ρ := ρ) Z1
  omega
noncomputable def f31 : E := (.imp (.and Z15 (.and Z3 (.and Z163 (.and Z164 (.and Z165 (.and Z143 (.and Z140 (.and Z145 (.and Z173 Z174))))))))) (.not (.cmp .lss (.var 23) (.int 0))))
theorem fact31 (ρ : Env) : E.B ρ f31 = true := by
  unfold f31
  rw [sm_B_imp]
  simp only [sm_B_and]
  rintro ⟨p0, p1, p2, p3, p4, p5, p6, p7, p8, p9⟩
  have hl1 := t111_len p1
  have hl3 := t111_len p3
  have hb7 := t132_not p7
  try simp only [smA, smW] at *
  have n6 := fn0_nn (ρ := ρ) Z141
  have n8 := fn0_nn (ρ := ρ) Z166
  omega
noncomputable def f32 : E := (.imp (.and Z3 (.and Z21 (.and Z16 (.and Z76 (.and Z8 (.and Z148 (.and Z149 (.and Z144 Z88)))))))) Z9)
theorem fact32 (ρ : Env) : E.B ρ f32 = true := by
  unfold f32
  rw [sm_B_imp]
  simp only [sm_B_and]
  rintro ⟨p0, p1, p2, p3, p4, p5, p6, p7, p8, p9⟩
  have hl0 := t111_len p0
  have hb7 := t132_yes p7
  try simp only [smA, smW] at *
  have n4 := fn0_nn (ρ := ρ) Z1
  have n6 := fn0_nn (ρ := ρ) Z0
  omega
noncomputable def f33 : E := (.imp (.and Z3 (.and Z144 Z68)) Z90)
theorem fact33 (ρ : Env) : E.B ρ f33 = true := by
  unfold f33
  rw [sm_B_imp]
  simp only [sm_B_and]
  rintro ⟨p0, p1, p2, p3, p4, p5, p6⟩
  have hl0 := t111_len p0
  have hb1 := t132_yes p1
  have hs0 := I_sublen (ρ := ρ) (l := Z1) (a := Z2) (b := (.fn 6 (.pr Z2 (.fn 7 (.pr Z6 Z2)))))
  try simp only [smA, smW] at *
  have n3 := fn0_nn (ρ := ρ) Z1
  have n4 := fn0_nn (ρ := ρ) (.fn 4 (.pr Z1 (.pr Z2 (.fn 6 (.pr Z2 (.fn 7 (.pr Z6 Z2)))))))
  omega
noncomputable def f34 : E := (.imp (.and Z145 Z183) Z80)
theorem fact34 (ρ : Env) : E.B ρ f34 = true := by
  unfold f34
  rw [sm_B_imp]
  simp only [sm_B_and]
  rintro ⟨p0, p1, p2, p3, p4, p5, p6, p7, p8, p9, p10⟩
  have g0 : E.I ρ (.fn 0 Z0) = (0) := by
    have hb0 := t132_not p0
    have hl3 := t111_len p3
    try simp only [smA, smW] at *
    have n5 := fn0_nn (ρ := ρ) Z1
    have n7 := fn0_nn (ρ := ρ) Z0
    omega
  exact t106_nil (by rw [g0] <;> rfl)
noncomputable def f35 : E := (.imp (.and Z145 (.and Z3 Z8)) Z82)
theorem fact35 (ρ : Env) : E.B ρ f35 = true := by
  unfold f35
  rw [sm_B_imp]
  simp only [sm_B_and]
  rintro ⟨p0, p1, p2⟩
  have g0 : E.I ρ (.fn 6 (.pr Z2 (.fn 7 (.pr Z6 Z2)))) = E.I ρ (.fn 0 Z1) := by
    have hb0 := t132_not p0
    have hl1 := t111_len p1
    try simp only [smA, smW] at *
    have n2 := fn0_nn (ρ := ρ) Z1
    omega
  have g1 : E.I ρ Z2 = E.I ρ Z2 := rfl
  exact t106_sub p1 g0 g1
noncomputable def f36 : E := (.imp Z3 (.not (.cmp .lss Z6 (.fn 6 (.pr Z141 (.fn 7 (.pr Z6 Z141)))))))
theorem fact36 (ρ : Env) : E.B ρ f36 = true := by
  unfold f36
  rw [sm_B_imp]
  intro p0
  have hl0 := t111_len p0
  try simp only [smA, smW] at *
  omega
noncomputable def f37 : E := (.imp (.and Z3 Z15) (.cmp .eql Z2 Z14))
theorem fact37 (ρ : Env) : E.B ρ f37 = true := by
  unfold f37
  rw [sm_B_imp]
  simp only [sm_B_and]
  rintro ⟨p0, p1⟩
  have hl0 := t111_len p0
  try simp only [smA, smW] at *
  omega
noncomputable def f38 : E := Z97
theorem fact38 (ρ : Env) : E.B ρ f38 = true := by
  unfold f38
  rw [sm_B_imp]
  simp only [sm_B_and]
  rintro ⟨p0, p1, p2, p3, p4⟩
  have hl0 := t111_len p0
  try simp only [smA, smW] at *
  have n3 := fn0_nn (ρ := ρ) Z94
  obtain ⟨a3, ea3, qa3⟩ := cs_i64 ((E.I ρ Z93) + (1))
  try simp only [ea3] at *
  omega
noncomputable def f39 : E := Z107
theorem fact39 (ρ : Env) : E.B ρ f39 = true := by
  unfold f39
  rw [sm_B_imp]
  simp only [sm_B_and]
  rintro ⟨p0, p1, p2, p3⟩
  have hl0 := t111_len p0
  try simp only [smA, smW] at *
  obtain ⟨a2, ea2, qa2⟩ := cs_i64 ((E.I ρ Z41) + (1))
  try simp only [ea2] at *
  omega
noncomputable def f40 : E := (.imp (.and Z3 (.and Z148 (.and Z149 (.and Z144 Z108)))) Z109)
theorem fact40 (ρ : Env) : E.B ρ f40 = true := by
  unfold f40
  rw [sm_B_imp]
  simp only [sm_B_and]
  rintro ⟨p0, p1, p2, p3, p4, p5, p6, p7, p8, p9, p10⟩
  have hl0 := t111_len p0
  have hb3 := t132_yes p3
  try simp only [smA, smW] at *
  have n6 := fn0_nn (ρ := ρ) Z1
  have n7 := fn0_nn (ρ := ρ) Z0
  obtain ⟨a7, ea7, qa7⟩ := cs_i64 ((E.I ρ Z6) - (E.I ρ Z2))
  try simp only [ea7] at *
  omega
noncomputable def f41 : E := (.imp Z187 Z115)
theorem fact41 (ρ : Env) : E.B ρ f41 = true := by
  unfold f41
  rw [sm_B_imp]
  simp only [sm_B_and]
  rintro ⟨p0, p1, p2, p3, p4, p5, p6, p7, p8, p9, p10⟩
  have hl0 := t111_len p0
  have hb3 := t132_yes p3
  try simp only [smA, smW] at *
  have n5 := fn0_nn (ρ := ρ) Z1
  have n6 := fn0_nn (ρ := ρ) Z0
  omega
noncomputable def f42 : E := (.imp (.and Z3 (.and Z21 (.and Z76 (.and Z7 (.and Z8 (.and Z148 (.and Z149 (.and Z145 Z88)))))))) Z9)
theorem fact42 (ρ : Env) : E.B ρ f42 = true := by
  unfold f42
  rw [sm_B_imp]
  simp only [sm_B_and]
  rintro ⟨p0, p1, p2, p3, p4, p5, p6, p7, p8, p9⟩
  have hl0 := t111_len p0
  have hb7 := t132_not p7
  try simp only [smA, smW] at *
  have n4 := fn0_nn (ρ := ρ) Z1
  have n6 := fn0_nn (ρ := ρ) Z0
  omega
noncomputable def f43 : E := (.imp (.and Z3 (.and Z145 (.and Z167 (.and Z146 Z137)))) Z90)
theorem fact43 (ρ : Env) : E.B ρ f43 = true := by
  unfold f43
  rw [sm_B_imp]
  simp only [sm_B_and]
  rintro ⟨p0, p1, p2, p3, p4, p5, p6, p7, p8, p9⟩
  have hl0 := t111_len p0
  have hb1 := t132_not p1
  have hs0 := I_sublen (ρ := ρ) (l := Z1) (a := Z2) (b := (.fn 6 (.pr Z2 (.fn 7 (.pr Z6 Z2)))))
  try simp only [smA, smW] at *
  have n1 := fn0_nn (ρ := ρ) Z0
  have n6 := fn0_nn (ρ := ρ) Z1
  have n7 := fn0_nn (ρ := ρ) (.fn 4 (.pr Z1 (.pr Z2 (.fn 6 (.pr Z2 (.fn 7 (.pr Z6 Z2)))))))
  omega
noncomputable def f44 : E := (.imp (.and Z160 (.and Z145 (.and Z161 (.and Z188 Z181)))) Z132)
theorem fact44 (ρ : Env) : E.B ρ f44 = true := by
  unfold f44
  rw [sm_B_imp]
  simp only [sm_B_and]
  rintro ⟨p0, p1, p2, p3, p4, p5, p6, p7, p8, p9, p10, p11⟩
  have g0 : E.I ρ (.fn 0 Z48) = (0) := by
    have hl0 := t111_len p0
    have hb1 := t132_not p1
    have hl4 := t111_len p4
    try simp only [smA, smW] at *
    have n5 := fn0_nn (ρ := ρ) Z1
    have n7 := fn0_nn (ρ := ρ) Z48
    omega
  exact t106_nil (by rw [g0] <;> rfl)
noncomputable def f45 : E := (.imp (.and Z160 (.and Z145 (.and Z161 (.and Z3 Z189)))) (.fn 106 (.pr (.fn 4 (.pr Z1 (.pr Z141 (.fn 6 (.pr Z141 (.fn 7 (.pr Z6 Z141))))))) Z48)))
theorem fact45 (ρ : Env) : E.B ρ f45 = true := by
  unfold f45
  rw [sm_B_imp]
  simp only [sm_B_and]
  rintro ⟨p0, p1, p2, p3, p4, p5⟩
  obtain ⟨g0, g1, g2, g3⟩ : (0) ≤ (0) ∧ (0) ≤ E.I ρ Z2 ∧ E.I ρ Z141 = E.I ρ (.fn 6 (.pr Z2 (.int 0))) ∧ E.I ρ (.fn 6 (.pr Z141 (.fn 7 (.pr Z6 Z141)))) = E.I ρ (.fn 0 Z1) := by
    have hl0 := t111_len p0
    have hb1 := t132_not p1
    have hl3 := t111_len p3
    try simp only [smA, smW] at *
    have n4 := fn0_nn (ρ := ρ) Z1
    omega
  exact t106_sub (t111_trans p0 p3 (by (try simp only [sm_I_int]); omega) (by (try simp only [sm_I_int]); omega) g2) g3 rfl
noncomputable def f46 : E := Z116
theorem fact46 (ρ : Env) : E.B ρ f46 = true := by
  unfold f46
  rw [sm_B_imp]
  simp only [sm_B_and]
  rintro ⟨p0, p1, p2, p3, p4⟩
  have hl0 := t111_len p0
  try simp only [smA, smW] at *
  have n3 := fn0_nn (ρ := ρ) Z94
  obtain ⟨a3, ea3, qa3⟩ := cs_i64 ((E.I ρ Z93) + (1))
  try simp only [ea3] at *
  omega
noncomputable def f47 : E := Z117
theorem fact47 (ρ : Env) : E.B ρ f47 = true := by
  unfold f47
  rw [sm_B_imp]
  simp only [sm_B_and]
  rintro ⟨p0, p1, p2, p3⟩
  have hl0 := t111_len p0
  try simp only [smA, smW] at *
  obtain ⟨a2, ea2, qa2⟩ := cs_i64 ((E.I ρ Z41) + (1))
  try simp only [ea2] at *
  omega
noncomputable def f48 : E := (.imp (.and Z3 (.and Z144 Z36)) Z119)
theorem fact48 (ρ : Env) : E.B ρ f48 = true := by
  unfold f48
  rw [sm_B_imp]
  simp only [sm_B_and]
  rintro ⟨p0, p1, p2, p3, p4, p5⟩
  have hl0 := t111_len p0
  have hb1 := t132_yes p1
  try simp only [smA, smW] at *
  have n3 := fn0_nn (ρ := ρ) Z1
  omega
noncomputable def f49 : E := (.imp (.and Z3 (.and Z148 (.and Z149 (.and Z145 Z108)))) Z109)
theorem fact49 (ρ : Env) : E.B ρ f49 = true := by
  unfold f49
  rw [sm_B_imp]
  simp only [sm_B_and]
  rintro ⟨p0, p1, p2, p3, p4, p5, p6, p7, p8, p9, p10⟩
  have hl0 := t111_len p0
  have hb3 := t132_not p3
  try simp only [smA, smW] at *
  have n6 := fn0_nn (ρ := ρ) Z1
  have n7 := fn0_nn (ρ := ρ) Z0
  obtain ⟨a7, ea7, qa7⟩ := cs_i64 ((E.I ρ Z6) - (E.I ρ Z2))
  try simp only [ea7] at *
  omega
noncomputable def f50 : E := (.imp (.and Z3 (.and Z148 (.and Z149 (.and Z145 Z114)))) Z115)
theorem fact50 (ρ : Env) : E.B ρ f50 = true := by
  unfold f50
  rw [sm_B_imp]
  simp only [sm_B_and]
  rintro ⟨p0, p1, p2, p3, p4, p5, p6, p7, p8, p9, p10⟩
  have hl0 := t111_len p0
  have hb3 := t132_not p3
  try simp only [smA, smW] at *
  have n5 := fn0_nn (ρ := ρ) Z1
  have n6 := fn0_nn (ρ := ρ) Z0
  omega
noncomputable def f51 : E := (.imp (.and Z15 (.and Z3 (.and Z21 (.and Z76 (.and Z7 (.and Z8 (.and Z148 (.and Z149 (.and Z159 (.and Z160 (.and Z145 (.and Z161 (.and Z188 Z11))))))))))))) Z133)
theorem fact51 (ρ : Env) : E.B ρ f51 = true := by
  unfold f51
  rw [sm_B_imp]
  simp only [sm_B_and]
  rintro ⟨p0, p1, p2, p3, p4, p5, p6, p7, p8, p9, p10, p11, p12, p13⟩
  have hl1 := t111_len p1
  have hl9 := t111_len p9
  have hb10 := t132_not p10
  try simp only [smA, smW] at *
  have n5 := fn0_nn (ρ := ρ) Z1
  have n9 := fn0_nn (ρ := ρ) Z48
  omega
noncomputable def f52 : E := (.imp (.and Z3 (.and Z160 (.and Z145 (.and Z161 Z68)))) (.cmp .eql (.fn 7 (.pr Z6 Z141)) (.fn 0 (.fn 4 (.pr Z1 (.pr Z141 (.fn 6 (.pr Z141 (.fn 7 (.pr Z6 Z141))))))))))
theorem fact52 (ρ : Env) : E.B ρ f52 = true := by
  unfold f52
  rw [sm_B_imp]
  simp only [sm_B_and]
  rintro ⟨p0, p1, p2, p3, p4, p5, p6, p7, p8⟩
  have hl0 := t111_len p0
  have hl1 := t111_len p1
  have hb2 := t132_not p2
  have hs0 := I_sublen (ρ := ρ) (l := Z1) (a := Z141) (b := (.fn 6 (.pr Z141 (.fn 7 (.pr Z6 Z141)))))
  try simp only [smA, smW] at *
  have n4 := fn0_nn (ρ := ρ) Z1
  have n5 := fn0_nn (ρ := ρ) (.fn 4 (.pr Z1 (.pr Z141 (.fn 6 (.pr Z141 (.fn 7 (.pr Z6 Z141)))))))
  omega
noncomputable def f53 : E := Z121
theorem fact53 (ρ : Env) : E.B ρ f53 = true := by
  unfold f53
  rw [sm_B_imp]
  simp only [sm_B_and]
  rintro ⟨p0, p1, p2, p3, p4⟩
  have hl0 := t111_len p0
  try simp only [smA, smW] at *
  have n3 := fn0_nn (ρ := ρ) Z94
  obtain ⟨a3, ea3, qa3⟩ := cs_i64 ((E.I ρ Z93) + (1))
  try simp only [ea3] at *
  omega
noncomputable def f54 : E := Z122
theorem fact54 (ρ : Env) : E.B ρ f54 = true := by
  unfold f54
  rw [sm_B_imp]
  simp only [sm_B_and]
  rintro ⟨p0, p1, p2, p3⟩
  have hl0 := t111_len p0
  try simp only [smA, smW] at *
  obtain ⟨a2, ea2, qa2⟩ := cs_i64 ((E.I ρ Z41) + (1))
  try simp only [ea2] at *
  omega
noncomputable def f55 : E := (.imp Z187 Z109)
theorem fact55 (ρ : Env) : E.B ρ f55 = true := by
  unfold f55
  rw [sm_B_imp]
  simp only [sm_B_and]
  rintro ⟨p0, p1, p2, p3, p4, p5, p6, p7, p8, p9, p10⟩
  have hl0 := t111_len p0
  have hb3 := t132_yes p3
  try simp only [smA, smW] at *
  have n5 := fn0_nn (ρ := ρ) Z1
  have n6 := fn0_nn (ρ := ρ) Z0
  obtain ⟨a6, ea6, qa6⟩ := cs_i64 ((E.I ρ Z6) - (E.I ρ Z2))
  try simp only [ea6] at *
  omega
noncomputable def f56 : E := (.imp (.and Z3 (.and Z145 (.and Z167 (.and Z146 Z190)))) Z119)
theorem fact56 (ρ : Env) : E.B ρ f56 = true := by
  unfold f56
  rw [sm_B_imp]
  simp only [sm_B_and]
  rintro ⟨p0, p1, p2, p3, p4, p5, p6, p7, p8⟩
  have hl0 := t111_len p0
  have hb1 := t132_not p1
  try simp only [smA, smW] at *
  have n1 := fn0_nn (ρ := ρ) Z0
  have n6 := fn0_nn (ρ := ρ) Z1
  omega
noncomputable def f57 : E := (.imp Z192 (.cmp .eql Z141 Z54))
theorem fact57 (ρ : Env) : E.B ρ f57 = true := by
  unfold f57
  rw [sm_B_imp]
  simp only [sm_B_and]
  rintro ⟨p0, p1, p2, p3, p4⟩
  have hl1 := t111_len p1
  have hl3 := t111_len p3
  try simp only [smA, smW] at *
  omega
noncomputable def f58 : E := (.imp (.and Z3 (.and Z148 (.and Z149 (.and Z160 (.and Z145 (.and Z161 (.and Z188 Z79))))))) Z193)
theorem fact58 (ρ : Env) : E.B ρ f58 = true := by
  unfold f58
  rw [sm_B_imp]
  simp only [sm_B_and]
  rintro ⟨p0, p1, p2, p3, p4, p5, p6, p7, p8, p9, p10, p11⟩
  have hl0 := t111_len p0
  have hl3 := t111_len p3
  have hb4 := t132_not p4
  try simp only [smA, smW] at *
  have n6 := fn0_nn (ρ := ρ) Z1
  have n7 := fn0_nn (ρ := ρ) Z48
  obtain ⟨a7, ea7, qa7⟩ := cs_i64 ((E.I ρ Z6) - (E.I ρ Z141))
  try simp only [ea7] at *
  omega
noncomputable def f59 : E := Z123
theorem fact59 (ρ : Env) : E.B ρ f59 = true := by
  unfold f59
  rw [sm_B_imp]
  simp only [sm_B_and]
  rintro ⟨p0, p1, p2, p3, p4⟩
  have hl0 := t111_len p0
  try simp only [smA, smW] at *
  have n3 := fn0_nn (ρ := ρ) Z94
  obtain ⟨a3, ea3, qa3⟩ := cs_i64 ((E.I ρ Z93) + (1))
  try simp only [ea3] at *
  omega
noncomputable def f60 : E := Z124
theorem fact60 (ρ : Env) : E.B ρ f60 = true := by
  unfold f60
  rw [sm_B_imp]
  simp only [sm_B_and]
  rintro ⟨p0, p1, p2, p3⟩
  have hl0 := t111_len p0
  try simp only [smA, smW] at *
  obtain ⟨a2, ea2, qa2⟩ := cs_i64 ((E.I ρ Z41) + (1))
  try simp only [ea2] at *
  omega
noncomputable def f61 : E := (.imp (.and Z3 (.and Z148 (.and Z149 (.and Z145 (.and Z167 (.and Z146 (.and Z110 (.and Z15 Z113)))))))) Z109)
theorem fact61 (ρ : Env) : E.B ρ f61 = true := by
  unfold f61
  rw [sm_B_imp]
  simp only [sm_B_and]
  rintro ⟨p0, p1, p2, p3, p4, p5, p6, p7, p8, p9, p10, p11, p12, p13⟩
  have hl0 := t111_len p0
  have hb3 := t132_not p3
  try simp only [smA, smW] at *
  have n2 := fn0_nn (ρ := ρ) Z0
  have n8 := fn0_nn (ρ := ρ) Z1
  obtain ⟨a8, ea8, qa8⟩ := cs_i64 ((E.I ρ Z6) - (E.I ρ Z2))
  try simp only [ea8] at *
  omega
noncomputable def f62 : E := (.imp (.and Z3 (.and Z148 (.and Z149 (.and Z160 (.and Z145 (.and Z161 (.and (.not Z188) Z195))))))) (.cmp .eql (.fn 7 (.pr Z6 Z141)) (.fn 0 Z48)))
theorem fact62 (ρ : Env) : E.B ρ f62 = true := by
  unfold f62
  rw [sm_B_imp]
  simp only [sm_B_and]
  rintro ⟨p0, p1, p2, p3, p4, p5, p6, p7, p8, p9, p10⟩
  have hl0 := t111_len p0
  have hl3 := t111_len p3
  have hb4 := t132_not p4
  try simp only [smA, smW] at *
  have n6 := fn0_nn (ρ := ρ) Z1
  have n7 := fn0_nn (ρ := ρ) Z48
  omega
noncomputable def f63 : E := (.imp (.and Z15 (.and Z3 (.and Z21 (.and Z16 (.and Z7 (.and Z8 (.and Z163 (.and Z164 (.and Z165 (.and Z143 (.and Z140 (.and Z145 (.and Z176 (.and Z173 (.and Z174 Z11))))))))))))))) (.not (.cmp .lss Z175 (.int 0))))
theorem fact63 (ρ : Env) : E.B ρ f63 = true := by
  unfold f63
  rw [sm_B_imp]
  simp only [sm_B_and]
  rintro ⟨p0, p1, p2, p3, p4, p5, p6, p7, p8, p9, p10, p11, p12, p13, p14, p15⟩
  have hl1 := t111_len p1
  have hl7 := t111_len p7
  have hb11 := t132_not p11
  try simp only [smA, smW] at *
  have n4 := fn0_nn (ρ := ρ) Z1
  have n8 := fn0_nn (ρ := ρ) Z141
  have n11 := fn0_nn (ρ := ρ) Z166
  omega
noncomputable def f64 : E := (.imp Z185 (.not (.cmp .lss (.int 300) (.fn 7 (.pr Z6 Z141)))))
theorem fact64 (ρ : Env) : E.B ρ f64 = true := by
  unfold f64
  rw [sm_B_imp]
  simp only [sm_B_and]
  rintro ⟨p0, p1, p2, p3, p4, p5, p6, p7⟩
  have hl0 := t111_len p0
  have hl1 := t111_len p1
  have hb2 := t132_not p2
  try simp only [smA, smW] at *
  have n4 := fn0_nn (ρ := ρ) Z1
  omega
noncomputable def f65 : E := (.imp Z203 (.not (.cmp .lss Z6 Z175)))
theorem fact65 (ρ : Env) : E.B ρ f65 = true := by
  unfold f65
  rw [sm_B_imp]
  simp only [sm_B_and]
  rintro ⟨p0, p1, p2, p3, p4, p5, p6, p7, p8, p9, p10⟩
  have hl0 := t111_len p0
  have hl2 := t111_len p2
  have hb5 := t132_not p5
  try simp only [smA, smW] at *
  have n5 := fn0_nn (ρ := ρ) Z141
  have n9 := fn0_nn (ρ := ρ) Z166
  have n11 := fn0_nn (ρ := ρ) Z1
  omega
noncomputable def f66 : E := (.imp (.and Z3 (.and Z163 (.and Z164 (.and Z165 (.and Z143 (.and Z140 (.and Z145 (.and (.not Z167) (.and Z16 Z168))))))))) Z157)
theorem fact66 (ρ : Env) : E.B ρ f66 = true := by
  unfold f66
  rw [sm_B_imp]
  simp only [sm_B_and]
  rintro ⟨p0, p1, p2, p3, p4, p5, p6, p7, p8, p9, p10, p11⟩
  have hl0 := t111_len p0
  have hl2 := t111_len p2
  have hb6 := t132_not p6
  try simp only [smA, smW] at *
  have n5 := fn0_nn (ρ := ρ) Z141
  have n6 := fn0_nn (ρ := ρ) Z0
  have n9 := fn0_nn (ρ := ρ) Z1
  omega
noncomputable def f67 : E := (.imp Z192 (.cmp .eql Z54 Z141))
theorem fact67 (ρ : Env) : E.B ρ f67 = true := by
  unfold f67
  rw [sm_B_imp]
  simp only [sm_B_and]
  rintro ⟨p0, p1, p2, p3, p4⟩
  have hl1 := t111_len p1
  have hl3 := t111_len p3
  try simp only [smA, smW] at *
  omega
noncomputable def f68 : E := (.imp (.and Z160 (.and Z145 (.and Z161 (.and Z3 Z16)))) (.fn 111 (.pr Z48 (.pr Z1 Z141))))
theorem fact68 (ρ : Env) : E.B ρ f68 = true := by
  unfold f68
  rw [sm_B_imp]
  simp only [sm_B_and]
  rintro ⟨p0, p1, p2, p3, p4⟩
  obtain ⟨g0, g1, g2⟩ : (0) ≤ (0) ∧ (0) ≤ E.I ρ Z2 ∧ E.I ρ Z141 = E.I ρ (.fn 6 (.pr Z2 (.int 0))) := by
    have hl0 := t111_len p0
    have hb1 := t132_not p1
    have hl3 := t111_len p3
    try simp only [smA, smW] at *
    omega
  exact t111_trans p0 p3 (by (try simp only [sm_I_int]); omega) (by (try simp only [sm_I_int]); omega) g2
noncomputable def f69 : E := (.imp (.and Z3 (.and Z148 (.and Z149 (.and Z160 (.and Z145 (.and Z161 (.and (.not Z188) Z113))))))) Z193)
theorem fact69 (ρ : Env) : E.B ρ f69 = true := by
  unfold f69
  rw [sm_B_imp]
  simp only [sm_B_and]
  rintro ⟨p0, p1, p2, p3, p4, p5, p6, p7, p8, p9, p10, p11, p12⟩
  have hl0 := t111_len p0
  have hl3 := t111_len p3
  have hb4 := t132_not p4
  try simp only [smA, smW] at *
  have n6 := fn0_nn (ρ := ρ) Z1
  have n7 := fn0_nn (ρ := ρ) Z48
  obtain ⟨a7, ea7, qa7⟩ := cs_i64 ((E.I ρ Z6) - (E.I ρ Z141))
  try simp only [ea7] at *
  omega
noncomputable def f70 : E := (.imp Z203 (.not (.cmp .lss (.fn 7 (.pr Z6 Z175)) (.int 0))))
theorem fact70 (ρ : Env) : E.B ρ f70 = true := by
  unfold f70
  rw [sm_B_imp]
  simp only [sm_B_and]
  rintro ⟨p0, p1, p2, p3, p4, p5, p6, p7, p8, p9, p10⟩
  have hl0 := t111_len p0
  have hl2 := t111_len p2
  have hb5 := t132_not p5
  try simp only [smA, smW] at *
  have n5 := fn0_nn (ρ := ρ) Z141
  have n9 := fn0_nn (ρ := ρ) Z166
  have n11 := fn0_nn (ρ := ρ) Z1
  omega
noncomputable def f71 : E := (.imp Z211 (.not (.cmp .lss (.int 2147483648) (.fn 7 (.pr Z6 Z175)))))
theorem fact71 (ρ : Env) : E.B ρ f71 = true := by
  unfold f71
  rw [sm_B_imp]
  simp only [sm_B_and]
  rintro ⟨p0, p1, p2, p3, p4, p5, p6, p7, p8, p9, p10, p11, p12, p13⟩
  have hl0 := t111_len p0
  have hl2 := t111_len p2
  have hb6 := t132_not p6
  try simp only [smA, smW] at *
  have n5 := fn0_nn (ρ := ρ) Z141
  have n9 := fn0_nn (ρ := ρ) Z166
  have n11 := fn0_nn (ρ := ρ) Z1
  omega
noncomputable def f72 : E := (.imp Z3 (.not (.cmp .lss Z6 (.fn 6 (.pr Z175 (.fn 7 (.pr Z6 Z175)))))))
theorem fact72 (ρ : Env) : E.B ρ f72 = true := by
  unfold f72
  rw [sm_B_imp]
  intro p0
  have hl0 := t111_len p0
  try simp only [smA, smW] at *
  omega
noncomputable def f73 : E := (.imp (.and Z163 (.and Z164 (.and Z165 (.and Z143 (.and Z140 (.and Z145 (.and (.not Z167) (.and Z176 (.and Z173 (.and Z174 (.and Z157 (.and Z212 (.and Z3 (.and Z16 (.and Z76 Z170))))))))))))))) Z132)
theorem fact73 (ρ : Env) : E.B ρ f73 = true := by
  unfold f73
  rw [sm_B_imp]
  simp only [sm_B_and]
  rintro ⟨p0, p1, p2, p3, p4, p5, p6, p7, p8, p9, p10, p11, p12, p13, p14, p15, p16, p17, p18, p19⟩
  have g0 : E.I ρ (.fn 0 Z48) = (0) := by
    have hl1 := t111_len p1
    have hb5 := t132_not p5
    have hl12 := t111_len p12
    try simp only [smA, smW] at *
    have n5 := fn0_nn (ρ := ρ) Z141
    have n6 := fn0_nn (ρ := ρ) Z0
    have n10 := fn0_nn (ρ := ρ) Z166
    have n13 := fn0_nn (ρ := ρ) Z1
    have n15 := fn0_nn (ρ := ρ) Z48
    omega
  exact t106_nil (by rw [g0] <;> rfl)
noncomputable def f74 : E := (.imp (.and Z163 (.and Z164 (.and Z165 (.and Z143 (.and Z140 (.and Z145 (.and Z176 (.and Z173 (.and Z174 (.and Z3 Z189)))))))))) (.fn 106 (.pr (.fn 4 (.pr Z1 (.pr Z175 (.fn 6 (.pr Z175 (.fn 7 (.pr Z6 Z175))))))) Z48)))
theorem fact74 (ρ : Env) : E.B ρ f74 = true := by
  unfold f74
  rw [sm_B_imp]
  simp only [sm_B_and]
  rintro ⟨p0, p1, p2, p3, p4, p5, p6, p7, p8, p9, p10, p11⟩
  obtain ⟨g0, g1, g2, g3⟩ : (0) ≤ E.I ρ (.fn 1 (.pr Z40 (.fn 6 (.pr (.fn 8 (.pr Z41 (.int 4))) (.int 2))))) ∧ (0) ≤ E.I ρ Z2 ∧ E.I ρ Z175 = E.I ρ (.fn 6 (.pr Z2 (.fn 1 (.pr Z40 (.fn 6 (.pr (.fn 8 (.pr Z41 (.int 4))) (.int 2))))))) ∧ E.I ρ (.fn 6 (.pr Z175 (.fn 7 (.pr Z6 Z175)))) = E.I ρ (.fn 0 Z1) := by
    have hl1 := t111_len p1
    have hb5 := t132_not p5
    have hl9 := t111_len p9
    try simp only [smA, smW] at *
    have n5 := fn0_nn (ρ := ρ) Z141
    have n9 := fn0_nn (ρ := ρ) Z166
    have n11 := fn0_nn (ρ := ρ) Z1
    omega
  exact t106_sub (t111_trans p1 p9 (by (try simp only [sm_I_int]); omega) (by (try simp only [sm_I_int]); omega) g2) g3 rfl
noncomputable def f75 : E := (.imp (.and Z15 (.and Z3 (.and Z16 (.and Z76 (.and Z8 (.and Z148 (.and Z149 (.and Z163 (.and Z164 (.and Z165 (.and Z143 (.and Z140 (.and Z145 (.and Z176 (.and Z173 (.and Z174 (.and Z157 Z212))))))))))))))))) Z133)
theorem fact75 (ρ : Env) : E.B ρ f75 = true := by
  unfold f75
  rw [sm_B_imp]
  simp only [sm_B_and]
  rintro ⟨p0, p1, p2, p3, p4, p5, p6, p7, p8, p9, p10, p11, p12, p13, p14, p15, p16, p17⟩
  have hl1 := t111_len p1
  have hl8 := t111_len p8
  have hb12 := t132_not p12
  try simp only [smA, smW] at *
  have n5 := fn0_nn (ρ := ρ) Z1
  have n10 := fn0_nn (ρ := ρ) Z141
  have n13 := fn0_nn (ρ := ρ) Z166
  have n14 := fn0_nn (ρ := ρ) Z48
  omega
noncomputable def f76 : E := (.imp (.and Z3 (.and Z163 (.and Z164 (.and Z165 (.and Z143 (.and Z140 (.and Z145 (.and Z176 (.and Z173 (.and Z174 (.and Z157 Z36))))))))))) (.cmp .eql (.fn 7 (.pr Z6 Z175)) (.fn 0 (.fn 4 (.pr Z1 (.pr Z175 (.fn 6 (.pr Z175 (.fn 7 (.pr Z6 Z175))))))))))
theorem fact76 (ρ : Env) : E.B ρ f76 = true := by
  unfold f76
  rw [sm_B_imp]
  simp only [sm_B_and]
  rintro ⟨p0, p1, p2, p3, p4, p5, p6, p7, p8, p9, p10, p11, p12, p13, p14⟩
  have hl0 := t111_len p0
  have hl2 := t111_len p2
  have hb6 := t132_not p6
  have hs0 := I_sublen (ρ := ρ) (l := Z1) (a := Z175) (b := (.fn 6 (.pr Z175 (.fn 7 (.pr Z6 Z175)))))
  try simp only [smA, smW] at *
  have n5 := fn0_nn (ρ := ρ) Z141
  have n9 := fn0_nn (ρ := ρ) Z166
  have n11 := fn0_nn (ρ := ρ) Z1
  have n12 := fn0_nn (ρ := ρ) (.fn 4 (.pr Z1 (.pr Z175 (.fn 6 (.pr Z175 (.fn 7 (.pr Z6 Z175)))))))
  omega
noncomputable def f77 : E := (.imp Z214 (.cmp .eql Z175 Z54))
theorem fact77 (ρ : Env) : E.B ρ f77 = true := by
  unfold f77
  rw [sm_B_imp]
  simp only [sm_B_and]
  rintro ⟨p0, p1, p2, p3, p4⟩
  have hl1 := t111_len p1
  have hl3 := t111_len p3
  try simp only [smA, smW] at *
  omega
noncomputable def f78 : E := (.imp (.and Z3 (.and Z148 (.and Z149 (.and Z163 (.and Z164 (.and Z165 (.and Z143 (.and Z140 (.and Z145 (.and Z176 (.and Z173 (.and Z174 (.and Z157 (.and Z212 Z194)))))))))))))) Z215)
theorem fact78 (ρ : Env) : E.B ρ f78 = true := by
  unfold f78
  rw [sm_B_imp]
  simp only [sm_B_and]
  rintro ⟨p0, p1, p2, p3, p4, p5, p6, p7, p8, p9, p10, p11, p12, p13, p14, p15, p16⟩
  have hl0 := t111_len p0
  have hl4 := t111_len p4
  have hb8 := t132_not p8
  try simp only [smA, smW] at *
  have n6 := fn0_nn (ρ := ρ) Z141
  have n10 := fn0_nn (ρ := ρ) Z166
  have n13 := fn0_nn (ρ := ρ) Z1
  have n14 := fn0_nn (ρ := ρ) Z48
  obtain ⟨a14, ea14, qa14⟩ := cs_i64 ((E.I ρ Z6) - (E.I ρ Z175))
  try simp only [ea14] at *
  omega
noncomputable def f79 : E := (.imp (.and Z3 (.and Z148 (.and Z149 (.and Z163 (.and Z164 (.and Z165 (.and Z143 (.and Z140 (.and Z145 (.and (.not Z167) (.and Z176 (.and Z173 (.and Z174 (.and Z157 (.and (.not Z212) Z194))))))))))))))) (.cmp .eql (.fn 7 (.pr Z6 Z175)) (.fn 0 Z48)))
theorem fact79 (ρ : Env) : E.B ρ f79 = true := by
  unfold f79
  rw [sm_B_imp]
  simp only [sm_B_and]
  rintro ⟨p0, p1, p2, p3, p4, p5, p6, p7, p8, p9, p10, p11, p12, p13, p14, p15, p16, p17⟩
  have hl0 := t111_len p0
  have hl4 := t111_len p4
  have hb8 := t132_not p8
  try simp only [smA, smW] at *
  have n6 := fn0_nn (ρ := ρ) Z141
  have n7 := fn0_nn (ρ := ρ) Z0
  have n11 := fn0_nn (ρ := ρ) Z166
  have n14 := fn0_nn (ρ := ρ) Z1
  have n15 := fn0_nn (ρ := ρ) Z48
  omega
noncomputable def f80 : E := (.imp Z211 (.not (.cmp .lss (.int 300) (.fn 7 (.pr Z6 Z175)))))
theorem fact80 (ρ : Env) : E.B ρ f80 = true := by
  unfold f80
  rw [sm_B_imp]
  simp only [sm_B_and]
  rintro ⟨p0, p1, p2, p3, p4, p5, p6, p7, p8, p9, p10, p11, p12, p13⟩
  have hl0 := t111_len p0
  have hl2 := t111_len p2
  have hb6 := t132_not p6
  try simp only [smA, smW] at *
  have n5 := fn0_nn (ρ := ρ) Z141
  have n9 := fn0_nn (ρ := ρ) Z166
  have n11 := fn0_nn (ρ := ρ) Z1
  omega
noncomputable def f81 : E := (.imp (.and Z163 (.and Z164 (.and Z165 (.and Z143 (.and Z140 (.and Z145 (.and Z176 (.and Z173 (.and Z174 (.and Z3 Z16)))))))))) (.fn 111 (.pr Z48 (.pr Z1 Z175))))
theorem fact81 (ρ : Env) : E.B ρ f81 = true := by
  unfold f81
  rw [sm_B_imp]
  simp only [sm_B_and]
  rintro ⟨p0, p1, p2, p3, p4, p5, p6, p7, p8, p9, p10⟩
  obtain ⟨g0, g1, g2⟩ : (0) ≤ E.I ρ (.fn 1 (.pr Z40 (.fn 6 (.pr (.fn 8 (.pr Z41 (.int 4))) (.int 2))))) ∧ (0) ≤ E.I ρ Z2 ∧ E.I ρ Z175 = E.I ρ (.fn 6 (.pr Z2 (.fn 1 (.pr Z40 (.fn 6 (.pr (.fn 8 (.pr Z41 (.int 4))) (.int 2))))))) := by
    have hl1 := t111_len p1
    have hb5 := t132_not p5
    have hl9 := t111_len p9
    try simp only [smA, smW] at *
    have n5 := fn0_nn (ρ := ρ) Z141
    have n9 := fn0_nn (ρ := ρ) Z166
    omega
  exact t111_trans p1 p9 (by (try simp only [sm_I_int]); omega) (by (try simp only [sm_I_int]); omega) g2
noncomputable def f82 : E := (.imp (.and Z3 (.and Z148 (.and Z149 (.and Z163 (.and Z164 (.and Z165 (.and Z143 (.and Z140 (.and Z145 (.and (.not Z167) (.and Z176 (.and Z173 (.and Z174 (.and Z157 (.and (.not Z212) Z112))))))))))))))) Z215)
theorem fact82 (ρ : Env) : E.B ρ f82 = true := by
  unfold f82
  rw [sm_B_imp]
  simp only [sm_B_and]
  rintro ⟨p0, p1, p2, p3, p4, p5, p6, p7, p8, p9, p10, p11, p12, p13, p14, p15, p16, p17, p18, p19⟩
  have hl0 := t111_len p0
  have hl4 := t111_len p4
  have hb8 := t132_not p8
  try simp only [smA, smW] at *
  have n6 := fn0_nn (ρ := ρ) Z141
  have n7 := fn0_nn (ρ := ρ) Z0
  have n11 := fn0_nn (ρ := ρ) Z166
  have n14 := fn0_nn (ρ := ρ) Z1
  have n15 := fn0_nn (ρ := ρ) Z48
  obtain ⟨a15, ea15, qa15⟩ := cs_i64 ((E.I ρ Z6) - (E.I ρ Z175))
  try simp only [ea15] at *
  omega
noncomputable def f83 : E := (.imp Z214 (.cmp .eql Z54 Z175))
theorem fact83 (ρ : Env) : E.B ρ f83 = true := by
  unfold f83
  rw [sm_B_imp]
  simp only [sm_B_and]
  rintro ⟨p0, p1, p2, p3, p4⟩
  have hl1 := t111_len p1
  have hl3 := t111_len p3
  try simp only [smA, smW] at *
  omega
noncomputable def facts : List E := [f0, f1, f2, f3, f4, f5, f6, f7, f8, f9, f10, f11, f12, f13, f14, f15, f16, f17, f18, f19, f20, f21, f22, f23, f24, f25, f26, f27, f28, f29, f30, f31, f32, f33, f34, f35, f36, f37, f38, f39, f40, f41, f42, f43, f44, f45, f46, f47, f48, f49, f50, f51, f52, f53, f54, f55, f56, f57, f58, f59, f60, f61, f62, f63, f64, f65, f66, f67, f68, f69, f70, f71, f72, f73, f74, f75, f76, f77, f78, f79, f80, f81, f82, f83]
theorem facts_ok : ∀ e ∈ facts, ∀ ρ : Env, E.B ρ e = true := (all_cons fact0 (all_cons fact1 (all_cons fact2 (all_cons fact3 (all_cons fact4 (all_cons fact5 (all_cons fact6 (all_cons fact7 (all_cons fact8 (all_cons fact9 (all_cons fact10 (all_cons fact11 (all_cons fact12 (all_cons fact13 (all_cons fact14 (all_cons fact15 (all_cons fact16 (all_cons fact17 (all_cons fact18 (all_cons fact19 (all_cons fact20 (all_cons fact21 (all_cons fact22 (all_cons fact23 (all_cons fact24 (all_cons fact25 (all_cons fact26 (all_cons fact27 (all_cons fact28 (all_cons fact29 (all_cons fact30 (all_cons fact31 (all_cons fact32 (all_cons fact33 (all_cons fact34 (all_cons fact35 (all_cons fact36 (all_cons fact37 (all_cons fact38 (all_cons fact39 (all_cons fact40 (all_cons fact41 (all_cons fact42 (all_cons fact43 (all_cons fact44 (all_cons fact45 (all_cons fact46 (all_cons fact47 (all_cons fact48 (all_cons fact49 (all_cons fact50 (all_cons fact51 (all_cons fact52 (all_cons fact53 (all_cons fact54 (all_cons fact55 (all_cons fact56 (all_cons fact57 (all_cons fact58 (all_cons fact59 (all_cons fact60 (all_cons fact61 (all_cons fact62 (all_cons fact63 (all_cons fact64 (all_cons fact65 (all_cons fact66 (all_cons fact67 (all_cons fact68 (all_cons fact69 (all_cons fact70 (all_cons fact71 (all_cons fact72 (all_cons fact73 (all_cons fact74 (all_cons fact75 (all_cons fact76 (all_cons fact77 (all_cons fact78 (all_cons fact79 (all_cons fact80 (all_cons fact81 (all_cons fact82 (all_cons fact83 all_nil))))))))))))))))))))))))))))))))))))))))))))))))))))))))))))))))))))))))))))))))))))
end l0_1
set_option maxRecDepth 100000 in
theorem body0_0_1 : BodyOk Try.prog (annG (some yG)) yG (tG).less (tG).tmps { (tG).st with pc := (what 2) :: .not (what 0) :: (tG).st.pc } :=
  body_of_check good (facts := l0_1.facts) l0_1.facts_ok (anns := [annH]) (plainAnns_ok _ (by kernel_rfl)) (nats := natl11) natl11_ok (n := 3000) (by kernel_rfl) (by kernel_rfl)
namespace l0_2
noncomputable def f0 : E := Z28
theorem fact0 (ρ : Env) : E.B ρ f0 = true := by
  unfold f0
  rw [sm_B_imp]
  simp only [sm_B_and]
  rintro ⟨p0, p1, p2⟩
  have hl0 := t111_len p0
  try simp only [smA, smW] at *
  have n3 := fn0_nn (ρ := ρ) Z1
  omega
noncomputable def f1 : E := (.imp Z89 (.not (.cmp .lss Z29 (.int (-1)))))
theorem fact1 (ρ : Env) : E.B ρ f1 = true := by
  unfold f1
  rw [sm_B_imp]
  simp only [sm_B_and]
  rintro ⟨p0, p1, p2, p3, p4, p5⟩
  have hl0 := t111_len p0
  try simp only [smA, smW] at *
  have n3 := fn0_nn (ρ := ρ) Z1
  obtain ⟨a3, ea3, qa3⟩ := cs_i64 ((E.I ρ Z6) - (E.I ρ Z2))
  try simp only [ea3] at *
  omega
noncomputable def f2 : E := Z35
theorem fact2 (ρ : Env) : E.B ρ f2 = true := by
  unfold f2
  rw [sm_B_imp]
  simp only [sm_B_and]
  rintro ⟨p0, p1, p2, p3⟩
  have hl0 := t111_len p0
  try simp only [smA, smW] at *
  have n3 := fn0_nn (ρ := ρ) Z1
  obtain ⟨a3, ea3, qa3⟩ := cs_i64 ((E.I ρ Z6) - (E.I ρ Z2))
  try simp only [ea3] at *
  omega
noncomputable def f3 : E := Z216
theorem fact3 (ρ : Env) : E.B ρ f3 = true := by
  unfold f3
  rw [sm_B_imp]
  simp only [sm_B_and]
  rintro ⟨p0, p1, p2, p3, p4, p5⟩
  have hl0 := t111_len p0
  try simp only [smA, smW] at *
  have n3 := fn0_nn (ρ := ρ) Z1
  obtain ⟨a3, ea3, qa3⟩ := cs_i64 ((E.I ρ Z2) + (1))
  try simp only [ea3] at *
  omega
noncomputable def f4 : E := Z39
theorem fact4 (ρ : Env) : E.B ρ f4 = true := by
  unfold f4
  rw [sm_B_imp]
  simp only [sm_B_and]
  rintro ⟨p0, p1, p2, p3, p4⟩
  have hl0 := t111_len p0
  try simp only [smA, smW] at *
  have n3 := fn0_nn (ρ := ρ) Z1
  omega
noncomputable def f5 : E := Z47
theorem fact5 (ρ : Env) : E.B ρ f5 = true := by
  unfold f5
  rw [sm_B_imp]
  intro p0
  have hl0 := t111_len p0
  try simp only [smA, smW] at *
  omega
noncomputable def f6 : E := Z217
theorem fact6 (ρ : Env) : E.B ρ f6 = true := by
  unfold f6
  rw [sm_B_imp]
  simp only [sm_B_and]
  rintro ⟨p0, p1, p2, p3, p4, p5, p6⟩
  have hl0 := t111_len p0
  try simp only [smA, smW] at *
  have n3 := fn0_nn (ρ := ρ) Z1
  obtain ⟨a3, ea3, qa3⟩ := cs_i64 ((E.I ρ Z6) - (E.I ρ Z2))
  try simp only [ea3] at *
  obtain ⟨a4, ea4, qa4⟩ := cs_i64 ((E.I ρ Z2) + (1))
  try simp only [ea4] at *
  omega
noncomputable def f7 : E := (.imp (.and Z219 (.and Z220 Z228)) Z80)
theorem fact7 (ρ : Env) : E.B ρ f7 = true := by
  unfold f7
  rw [sm_B_imp]
  simp only [sm_B_and]
  rintro ⟨p0, p1, p2, p3, p4, p5, p6, p7, p8, p9, p10, p11⟩
  have g0 : E.I ρ (.fn 0 Z0) = (0) := by
    have hl4 := t111_len p4
    try simp only [smA, smW] at *
    have n6 := fn0_nn (ρ := ρ) Z1
    have n7 := fn0_nn (ρ := ρ) Z0
    omega
  exact t106_nil (by rw [g0] <;> rfl)
noncomputable def f8 : E := Z83
theorem fact8 (ρ : Env) : E.B ρ f8 = true := by
  unfold f8
  rw [sm_B_imp]
  simp only [sm_B_and]
  rintro ⟨p0, p1⟩
  have g0 : E.I ρ (.fn 6 (.pr Z2 (.fn 7 (.pr Z6 Z2)))) = E.I ρ (.fn 0 Z1) := by
    have hl0 := t111_len p0
    try simp only [smA, smW] at *
    have n2 := fn0_nn (ρ := ρ) Z1
    omega
  have g1 : E.I ρ Z2 = E.I ρ Z2 := rfl
  exact t106_sub p0 g0 g1
noncomputable def f9 : E := Z232
theorem fact9 (ρ : Env) : E.B ρ f9 = true := by
  unfold f9
  rw [sm_B_imp]
  simp only [sm_B_and]
  rintro ⟨p0, p1, p2, p3, p4⟩
  have g0 : E.I ρ (.fn 0 Z0) = (0) := by
    have hl3 := t111_len p3
    try simp only [smA, smW] at *
    have n5 := fn0_nn (ρ := ρ) Z0
    omega
  exact t106_nil (by rw [g0] <;> rfl)
noncomputable def f10 : E := (.imp (.and Z218 Z228) Z80)
theorem fact10 (ρ : Env) : E.B ρ f10 = true := by
  unfold f10
  rw [sm_B_imp]
  simp only [sm_B_and]
  rintro ⟨p0, p1, p2, p3, p4, p5, p6, p7, p8, p9, p10⟩
  have g0 : E.I ρ (.fn 0 Z0) = (0) := by
    have hl3 := t111_len p3
    try simp only [smA, smW] at *
    have n6 := fn0_nn (ρ := ρ) Z1
    have n7 := fn0_nn (ρ := ρ) Z0
    omega
  exact t106_nil (by rw [g0] <;> rfl)
noncomputable def f11 : E := (.imp (.and Z3 (.and Z21 (.and Z16 (.and Z76 (.and Z8 (.and Z148 (.and Z221 (.and Z219 (.and Z220 Z88))))))))) Z9)
theorem fact11 (ρ : Env) : E.B ρ f11 = true := by
  unfold f11
  rw [sm_B_imp]
  simp only [sm_B_and]
  rintro ⟨p0, p1, p2, p3, p4, p5, p6, p7, p8, p9, p10⟩
  have hl0 := t111_len p0
  try simp only [smA, smW] at *
  have n4 := fn0_nn (ρ := ρ) Z1
  have n6 := fn0_nn (ρ := ρ) Z0
  omega
noncomputable def f12 : E := Z237
theorem fact12 (ρ : Env) : E.B ρ f12 = true := by
  unfold f12
  rw [sm_B_imp]
  simp only [sm_B_and]
  rintro ⟨p0, p1, p2, p3, p4, p5, p6⟩
  have hl0 := t111_len p0
  have hs0 := I_sublen (ρ := ρ) (l := Z1) (a := Z2) (b := (.fn 6 (.pr Z2 (.fn 7 (.pr Z6 Z2)))))
  try simp only [smA, smW] at *
  have n4 := fn0_nn (ρ := ρ) Z1
  have n5 := fn0_nn (ρ := ρ) (.fn 4 (.pr Z1 (.pr Z2 (.fn 6 (.pr Z2 (.fn 7 (.pr Z6 Z2)))))))
  obtain ⟨a5, ea5, qa5⟩ := cs_i64 ((E.I ρ Z6) - (E.I ρ Z2))
  try simp only [ea5] at *
  omega
noncomputable def f13 : E := Z240
theorem fact13 (ρ : Env) : E.B ρ f13 = true := by
  unfold f13
  rw [sm_B_imp]
  simp only [sm_B_and]
  rintro ⟨p0, p1, p2, p3, p4⟩
  have hl0 := t111_len p0
  try simp only [smA, smW] at *
  have n3 := fn0_nn (ρ := ρ) Z1
  have n5 := fn0_nn (ρ := ρ) Z0
  omega
noncomputable def f14 : E := Z244
theorem fact14 (ρ : Env) : E.B ρ f14 = true := by
  unfold f14
  rw [sm_B_imp]
  simp only [sm_B_and]
  rintro ⟨p0, p1, p2, p3, p4, p5, p6, p7⟩
  have hl0 := t111_len p0
  have hs0 := I_sublen (ρ := ρ) (l := Z1) (a := Z2) (b := (.fn 6 (.pr Z2 (.fn 7 (.pr Z6 Z2)))))
  try simp only [smA, smW] at *
  have n4 := fn0_nn (ρ := ρ) Z1
  have n5 := fn0_nn (ρ := ρ) (.fn 4 (.pr Z1 (.pr Z2 (.fn 6 (.pr Z2 (.fn 7 (.pr Z6 Z2)))))))
  obtain ⟨a5, ea5, qa5⟩ := cs_i64 ((E.I ρ Z6) - (E.I ρ Z2))
  try simp only [ea5] at *
  omega
noncomputable def f15 : E := (.imp (.and Z3 (.and Z21 (.and Z16 (.and Z76 (.and Z8 (.and Z148 (.and Z221 (.and Z218 Z88)))))))) Z9)
theorem fact15 (ρ : Env) : E.B ρ f15 = true := by
  unfold f15
  rw [sm_B_imp]
  simp only [sm_B_and]
  rintro ⟨p0, p1, p2, p3, p4, p5, p6, p7, p8, p9⟩
  have hl0 := t111_len p0
  try simp only [smA, smW] at *
  have n4 := fn0_nn (ρ := ρ) Z1
  have n6 := fn0_nn (ρ := ρ) Z0
  omega
noncomputable def f16 : E := (.imp Z89 Z90)
theorem fact16 (ρ : Env) : E.B ρ f16 = true := by
  unfold f16
  rw [sm_B_imp]
  simp only [sm_B_and]
  rintro ⟨p0, p1, p2, p3, p4, p5⟩
  have hl0 := t111_len p0
  have hs0 := I_sublen (ρ := ρ) (l := Z1) (a := Z2) (b := (.fn 6 (.pr Z2 (.fn 7 (.pr Z6 Z2)))))
  try simp only [smA, smW] at *
  have n3 := fn0_nn (ρ := ρ) Z1
  have n4 := fn0_nn (ρ := ρ) (.fn 4 (.pr Z1 (.pr Z2 (.fn 6 (.pr Z2 (.fn 7 (.pr Z6 Z2)))))))
  omega
noncomputable def f17 : E := Z97
theorem fact17 (ρ : Env) : E.B ρ f17 = true := by
  unfold f17
  rw [sm_B_imp]
  simp only [sm_B_and]
  rintro ⟨p0, p1, p2, p3, p4⟩
  have hl0 := t111_len p0
  try simp only [smA, smW] at *
  have n3 := fn0_nn (ρ := ρ) Z94
  obtain ⟨a3, ea3, qa3⟩ := cs_i64 ((E.I ρ Z93) + (1))
  try simp only [ea3] at *
  omega
noncomputable def f18 : E := Z107
theorem fact18 (ρ : Env) : E.B ρ f18 = true := by
  unfold f18
  rw [sm_B_imp]
  simp only [sm_B_and]
  rintro ⟨p0, p1, p2, p3⟩
  have hl0 := t111_len p0
  try simp only [smA, smW] at *
  obtain ⟨a2, ea2, qa2⟩ := cs_i64 ((E.I ρ Z41) + (1))
  try simp only [ea2] at *
  omega
noncomputable def f19 : E := (.imp (.and Z3 (.and Z148 (.and Z221 Z245))) Z109)
theorem fact19 (ρ : Env) : E.B ρ f19 = true := by
  unfold f19
  rw [sm_B_imp]
  simp only [sm_B_and]
  rintro ⟨p0, p1, p2, p3, p4, p5, p6, p7, p8, p9, p10, p11, p12⟩
  have hl0 := t111_len p0
  try simp only [smA, smW] at *
  have n6 := fn0_nn (ρ := ρ) Z1
  have n7 := fn0_nn (ρ := ρ) Z0
  obtain ⟨a7, ea7, qa7⟩ := cs_i64 ((E.I ρ Z6) - (E.I ρ Z2))
  try simp only [ea7] at *
  omega
noncomputable def f20 : E := (.imp Z253 Z115)
theorem fact20 (ρ : Env) : E.B ρ f20 = true := by
  unfold f20
  rw [sm_B_imp]
  simp only [sm_B_and]
  rintro ⟨p0, p1, p2, p3, p4, p5, p6, p7, p8, p9, p10, p11⟩
  have hl0 := t111_len p0
  try simp only [smA, smW] at *
  have n6 := fn0_nn (ρ := ρ) Z1
  have n7 := fn0_nn (ρ := ρ) Z0
  obtain ⟨a7, ea7, qa7⟩ := cs_i64 ((E.I ρ Z6) - (E.I ρ Z2))
  try simp only [ea7] at *
  omega
noncomputable def f21 : E := Z256
theorem fact21 (ρ : Env) : E.B ρ f21 = true := by
  unfold f21
  rw [sm_B_imp]
  simp only [sm_B_and]
  rintro ⟨p0, p1, p2, p3, p4⟩
  have hl0 := t111_len p0
  try simp only [smA, smW] at *
  have n5 := fn0_nn (ρ := ρ) Z0
  obtain ⟨a5, ea5, qa5⟩ := cs_i64 ((E.I ρ Z6) - (E.I ρ Z2))
  try simp only [ea5] at *
  omega
noncomputable def f22 : E := Z91
theorem fact22 (ρ : Env) : E.B ρ f22 = true := by
  unfold f22
  rw [sm_B_imp]
  intro p0
  try simp only [smA, smW] at *
  omega
noncomputable def f23 : E := Z116
theorem fact23 (ρ : Env) : E.B ρ f23 = true := by
  unfold f23
  rw [sm_B_imp]
  simp only [sm_B_and]
  rintro ⟨p0, p1, p2, p3, p4⟩
  have hl0 := t111_len p0
  try simp only [smA, smW] at *
  have n3 := fn0_nn (ρ := ρ) Z94
  obtain ⟨a3, ea3, qa3⟩ := cs_i64 ((E.I ρ Z93) + (1))
  try simp only [ea3] at *
  omega
noncomputable def f24 : E := Z117
theorem fact24 (ρ : Env) : E.B ρ f24 = true := by
  unfold f24
  rw [sm_B_imp]
  simp only [sm_B_and]
  rintro ⟨p0, p1, p2, p3⟩
  have hl0 := t111_len p0
  try simp only [smA, smW] at *
  obtain ⟨a2, ea2, qa2⟩ := cs_i64 ((E.I ρ Z41) + (1))
  try simp only [ea2] at *
  omega
noncomputable def f25 : E := (.imp (.and Z3 (.and Z148 (.and Z221 (.and Z218 Z108)))) Z109)
theorem fact25 (ρ : Env) : E.B ρ f25 = true := by
  unfold f25
  rw [sm_B_imp]
  simp only [sm_B_and]
  rintro ⟨p0, p1, p2, p3, p4, p5, p6, p7, p8, p9, p10⟩
  have hl0 := t111_len p0
  try simp only [smA, smW] at *
  have n6 := fn0_nn (ρ := ρ) Z1
  have n7 := fn0_nn (ρ := ρ) Z0
  obtain ⟨a7, ea7, qa7⟩ := cs_i64 ((E.I ρ Z6) - (E.I ρ Z2))
  try simp only [ea7] at *
  omega
noncomputable def f26 : E := (.imp Z259 Z115)
theorem fact26 (ρ : Env) : E.B ρ f26 = true := by
  unfold f26
  rw [sm_B_imp]
  simp only [sm_B_and]
  rintro ⟨p0, p1, p2, p3, p4, p5, p6, p7, p8, p9, p10⟩
  have hl0 := t111_len p0
  try simp only [smA, smW] at *
  have n5 := fn0_nn (ρ := ρ) Z1
  have n6 := fn0_nn (ρ := ρ) Z0
  omega
noncomputable def f27 : E := (.imp Z253 Z109)
theorem fact27 (ρ : Env) : E.B ρ f27 = true := by
  unfold f27
  rw [sm_B_imp]
  simp only [sm_B_and]
  rintro ⟨p0, p1, p2, p3, p4, p5, p6, p7, p8, p9, p10, p11⟩
  have hl0 := t111_len p0
  try simp only [smA, smW] at *
  have n6 := fn0_nn (ρ := ρ) Z1
  have n7 := fn0_nn (ρ := ρ) Z0
  obtain ⟨a7, ea7, qa7⟩ := cs_i64 ((E.I ρ Z6) - (E.I ρ Z2))
  try simp only [ea7] at *
  omega
noncomputable def f28 : E := Z121
theorem fact28 (ρ : Env) : E.B ρ f28 = true := by
  unfold f28
  rw [sm_B_imp]
  simp only [sm_B_and]
  rintro ⟨p0, p1, p2, p3, p4⟩
  have hl0 := t111_len p0
  try simp only [smA, smW] at *
  have n3 := fn0_nn (ρ := ρ) Z94
  obtain ⟨a3, ea3, qa3⟩ := cs_i64 ((E.I ρ Z93) + (1))
  try simp only [ea3] at *
  omega
noncomputable def f29 : E := Z122
theorem fact29 (ρ : Env) : E.B ρ f29 = true := by
  unfold f29
  rw [sm_B_imp]
  simp only [sm_B_and]
  rintro ⟨p0, p1, p2, p3⟩
  have hl0 := t111_len p0
  try simp only [smA, smW] at *
  obtain ⟨a2, ea2, qa2⟩ := cs_i64 ((E.I ρ Z41) + (1))
  try simp only [ea2] at *
  omega
noncomputable def f30 : E := Z120
theorem fact30 (ρ : Env) : E.B ρ f30 = true := by
  unfold f30
  rw [sm_B_imp]
  simp only [sm_B_and]
  rintro ⟨p0, p1, p2, p3, p4⟩
  have hl0 := t111_len p0
  try simp only [smA, smW] at *
  have n3 := fn0_nn (ρ := ρ) Z1
  omega
noncomputable def f31 : E := Z260
theorem fact31 (ρ : Env) : E.B ρ f31 = true := by
  unfold f31
  rw [sm_B_imp]
  simp only [sm_B_and]
  rintro ⟨p0, p1, p2, p3, p4, p5, p6, p7⟩
  have hl0 := t111_len p0
  try simp only [smA, smW] at *
  have n4 := fn0_nn (ρ := ρ) Z1
  have n5 := fn0_nn (ρ := ρ) Z0
  obtain ⟨a5, ea5, qa5⟩ := cs_i64 ((E.I ρ Z6) - (E.I ρ Z2))
  try simp only [ea5] at *
  omega
noncomputable def f32 : E := Z123
theorem fact32 (ρ : Env) : E.B ρ f32 = true := by
  unfold f32
  rw [sm_B_imp]
  simp only [sm_B_and]
  rintro ⟨p0, p1, p2, p3, p4⟩
  have hl0 := t111_len p0
  try simp only [smA, smW] at *
  have n3 := fn0_nn (ρ := ρ) Z94
  obtain ⟨a3, ea3, qa3⟩ := cs_i64 ((E.I ρ Z93) + (1))
  try simp only [ea3] at *
  omega
noncomputable def f33 : E := Z124
theorem fact33 (ρ : Env) : E.B ρ f33 = true := by
  unfold f33
  rw [sm_B_imp]
  simp only [sm_B_and]
  rintro ⟨p0, p1, p2, p3⟩
  have hl0 := t111_len p0
  try simp only [smA, smW] at *
  obtain ⟨a2, ea2, qa2⟩ := cs_i64 ((E.I ρ Z41) + (1))
  try simp only [ea2] at *
  omega
noncomputable def f34 : E := (.imp Z259 Z109)
theorem fact34 (ρ : Env) : E.B ρ f34 = true := by
  unfold f34
  rw [sm_B_imp]
  simp only [sm_B_and]
  rintro ⟨p0, p1, p2, p3, p4, p5, p6, p7, p8, p9, p10⟩
  have hl0 := t111_len p0
  try simp only [smA, smW] at *
  have n5 := fn0_nn (ρ := ρ) Z1
  have n6 := fn0_nn (ρ := ρ) Z0
  obtain ⟨a6, ea6, qa6⟩ := cs_i64 ((E.I ρ Z6) - (E.I ρ Z2))
  try simp only [ea6] at *
  omega
noncomputable def f35 : E := Z261
theorem fact35 (ρ : Env) : E.B ρ f35 = true := by
  unfold f35
  rw [sm_B_imp]
  simp only [sm_B_and]
  rintro ⟨p0, p1, p2, p3, p4, p5, p6, p7⟩
  have hl0 := t111_len p0
  try simp only [smA, smW] at *
  have n4 := fn0_nn (ρ := ρ) Z1
  have n5 := fn0_nn (ρ := ρ) Z0
  obtain ⟨a5, ea5, qa5⟩ := cs_i64 ((E.I ρ Z6) - (E.I ρ Z2))
  try simp only [ea5] at *
  omega
noncomputable def f36 : E := (.imp (.and Z3 (.and Z148 (.and Z221 (.and Z219 Z263)))) Z115)
theorem fact36 (ρ : Env) : E.B ρ f36 = true := by
  unfold f36
  rw [sm_B_imp]
  simp only [sm_B_and]
  rintro ⟨p0, p1, p2, p3, p4, p5, p6, p7, p8, p9⟩
  have hl0 := t111_len p0
  try simp only [smA, smW] at *
  have n4 := fn0_nn (ρ := ρ) Z1
  have n5 := fn0_nn (ρ := ρ) Z0
  obtain ⟨a5, ea5, qa5⟩ := cs_i64 ((E.I ρ Z2) + (1))
  try simp only [ea5] at *
  omega
noncomputable def f37 : E := (.imp Z271 Z115)
theorem fact37 (ρ : Env) : E.B ρ f37 = true := by
  unfold f37
  rw [sm_B_imp]
  simp only [sm_B_and]
  rintro ⟨p0, p1, p2, p3, p4, p5, p6, p7, p8, p9, p10, p11⟩
  have hl0 := t111_len p0
  try simp only [smA, smW] at *
  have n5 := fn0_nn (ρ := ρ) Z1
  have n6 := fn0_nn (ρ := ρ) Z0
  obtain ⟨a6, ea6, qa6⟩ := cs_i64 ((E.I ρ Z6) - (E.I ρ Z2))
  try simp only [ea6] at *
  obtain ⟨a7, ea7, qa7⟩ := cs_i64 ((E.I ρ Z2) + (1))
  try simp only [ea7] at *
  omega
noncomputable def f38 : E := (.imp (.and Z3 (.and Z148 (.and Z221 Z272))) Z109)
theorem fact38 (ρ : Env) : E.B ρ f38 = true := by
  unfold f38
  rw [sm_B_imp]
  simp only [sm_B_and]
  rintro ⟨p0, p1, p2, p3, p4, p5, p6, p7, p8, p9, p10⟩
  have hl0 := t111_len p0
  try simp only [smA, smW] at *
  have n4 := fn0_nn (ρ := ρ) Z1
  have n5 := fn0_nn (ρ := ρ) Z0
  obtain ⟨a5, ea5, qa5⟩ := cs_i64 ((E.I ρ Z6) - (E.I ρ Z2))
  try simp only [ea5] at *
  obtain ⟨a6, ea6, qa6⟩ := cs_i64 ((E.I ρ Z2) + (1))
  try simp only [ea6] at *
  omega
noncomputable def f39 : E := (.imp Z271 Z109)
theorem fact39 (ρ : Env) : E.B ρ f39 = true := by
  unfold f39
  rw [sm_B_imp]
  simp only [sm_B_and]
  rintro ⟨p0, p1, p2, p3, p4, p5, p6, p7, p8, p9, p10, p11⟩
  have hl0 := t111_len p0
  try simp only [smA, smW] at *
  have n5 := fn0_nn (ρ := ρ) Z1
  have n6 := fn0_nn (ρ := ρ) Z0
  obtain ⟨a6, ea6, qa6⟩ := cs_i64 ((E.I ρ Z6) - (E.I ρ Z2))
  try simp only [ea6] at *
  obtain ⟨a7, ea7, qa7⟩ := cs_i64 ((E.I ρ Z2) + (1))
  try simp only [ea7] at *
  omega
noncomputable def facts : List E := [f0, f1, f2, f3, f4, f5, f6, f7, f8, f9, f10, f11, f12, f13, f14, f15, f16, f17, f18, f19, f20, f21, f22, f23, f24, f25, f26, f27, f28, f29, f30, f31, f32, f33, f34, f35, f36, f37, f38, f39]
theorem facts_ok : ∀ e ∈ facts, ∀ ρ : Env, E.B ρ e = true := (all_cons fact0 (all_cons fact1 (all_cons fact2 (all_cons fact3 (all_cons fact4 (all_cons fact5 (all_cons fact6 (all_cons fact7 (all_cons fact8 (all_cons fact9 (all_cons fact10 (all_cons fact11 (all_cons fact12 (all_cons fact13 (all_cons fact14 (all_cons fact15 (all_cons fact16 (all_cons fact17 (all_cons fact18 (all_cons fact19 (all_cons fact20 (all_cons fact21 (all_cons fact22 (all_cons fact23 (all_cons fact24 (all_cons fact25 (all_cons fact26 (all_cons fact27 (all_cons fact28 (all_cons fact29 (all_cons fact30 (all_cons fact31 (all_cons fact32 (all_cons fact33 (all_cons fact34 (all_cons fact35 (all_cons fact36 (all_cons fact37 (all_cons fact38 (all_cons fact39 all_nil))))))))))))))))))))))))))))))))))))))))
end l0_2
set_option maxRecDepth 100000 in
theorem body0_0_2 : BodyOk Try.prog (annG (some yG)) yG (tG).less (tG).tmps { (tG).st with pc := (emptyL) :: .not (what 2) :: .not (what 0) :: (tG).st.pc } :=
  body_of_check good (facts := l0_2.facts) l0_2.facts_ok (anns := [annH]) (plainAnns_ok _ (by kernel_rfl)) (nats := natl11) natl11_ok (n := 3000) (by kernel_rfl) (by kernel_rfl)
namespace l0_3
noncomputable def f0 : E := (.imp Z274 (.not (.cmp .lss (.int 2147483648) (.fn 0 (.fn 1 (.pr Z40 (.fn 6 (.pr (.fn 8 (.pr Z41 (.int 4))) (.int 3)))))))))
theorem fact0 (ρ : Env) : E.B ρ f0 = true := by
  unfold f0
  rw [sm_B_imp]
  simp only [sm_B_and]
  rintro ⟨p0, p1, p2, p3, p4⟩
  obtain ⟨b0, b1⟩ : (0) ≤ E.I ρ Z41 ∧ E.I ρ Z41 < E.I ρ Z152 := by
    have hl0 := t111_len p0
    try simp only [smA, smW] at *
    omega
  have hrow := (t130_get (i := Z41) p1 (by (try simp only [sm_I_int]); omega) b1).1
  clear b0 b1
  have hl0 := t111_len p0
  try simp only [smA, smW] at *
  have n3 := fn0_nn (ρ := ρ) (.fn 1 (.pr Z40 (.fn 6 (.pr (.fn 8 (.pr Z41 (.int 4))) (.int 3)))))
  omega
noncomputable def f1 : E := Z5
theorem fact1 (ρ : Env) : E.B ρ f1 = true := by
  unfold f1
  rw [sm_B_imp]
  simp only [sm_B_and]
  rintro ⟨p0, p1⟩
  exact (t131_drop p0 p1)
noncomputable def f2 : E := (.imp (.and Z3 (.and Z7 (.and Z8 (.and Z148 (.and Z221 (.and Z275 (.and Z218 Z11))))))) Z13)
theorem fact2 (ρ : Env) : E.B ρ f2 = true := by
  unfold f2
  rw [sm_B_imp]
  simp only [sm_B_and]
  rintro ⟨p0, p1, p2, p3, p4, p5, p6, p7⟩
  have hl0 := t111_len p0
  try simp only [smA, smW] at *
  have n2 := fn0_nn (ρ := ρ) Z1
  have n4 := fn0_nn (ρ := ρ) (.fn 1 (.pr Z40 (.fn 6 (.pr (.fn 8 (.pr Z41 (.int 4))) (.int 3)))))
  have n5 := fn0_nn (ρ := ρ) Z0
  omega
noncomputable def f3 : E := Z20
theorem fact3 (ρ : Env) : E.B ρ f3 = true := by
  unfold f3
  rw [sm_B_imp]
  simp only [sm_B_and]
  rintro ⟨p0, p1, p2⟩
  have hl0 := t111_len p0
  try simp only [smA, smW] at *
  omega
noncomputable def f4 : E := (.imp (.and Z3 (.and Z148 (.and Z221 (.and Z275 (.and Z218 Z137))))) Z151)
theorem fact4 (ρ : Env) : E.B ρ f4 = true := by
  unfold f4
  rw [sm_B_imp]
  simp only [sm_B_and]
  rintro ⟨p0, p1, p2, p3, p4, p5, p6, p7, p8, p9, p10⟩
  have hl0 := t111_len p0
  try simp only [smA, smW] at *
  have n2 := fn0_nn (ρ := ρ) (.fn 1 (.pr Z40 (.fn 6 (.pr (.fn 8 (.pr Z41 (.int 4))) (.int 3)))))
  have n6 := fn0_nn (ρ := ρ) Z1
  have n7 := fn0_nn (ρ := ρ) Z0
  omega
noncomputable def f5 : E := (.imp Z274 (.not (.cmp .lss (.int 60) (.fn 0 (.fn 1 (.pr Z40 (.fn 6 (.pr (.fn 8 (.pr Z41 (.int 4))) (.int 3)))))))))
theorem fact5 (ρ : Env) : E.B ρ f5 = true := by
  unfold f5
  rw [sm_B_imp]
  simp only [sm_B_and]
  rintro ⟨p0, p1, p2, p3, p4⟩
  obtain ⟨b0, b1⟩ : (0) ≤ E.I ρ Z41 ∧ E.I ρ Z41 < E.I ρ Z152 := by
    have hl0 := t111_len p0
    try simp only [smA, smW] at *
    omega
  have hrow := (t130_get (i := Z41) p1 (by (try simp only [sm_I_int]); omega) b1).1
  clear b0 b1
  have hl0 := t111_len p0
  try simp only [smA, smW] at *
  have n3 := fn0_nn (ρ := ρ) (.fn 1 (.pr Z40 (.fn 6 (.pr (.fn 8 (.pr Z41 (.int 4))) (.int 3)))))
  omega
noncomputable def f6 : E := (.imp (.and Z3 (.and Z153 (.and Z276 (.and Z277 (.and (.cmp .eql Z142 (.fn 6 (.pr Z2 (.fn 7 (.pr (.fn 0 (.fn 1 (.pr Z40 (.fn 6 (.pr (.fn 8 (.pr Z41 (.int 4))) (.int 3)))))) (.int 1)))))) (.and Z15 (.and Z99 (.and Z21 (.and Z16 (.and Z11 (.and Z7 Z281))))))))))) Z282)
theorem fact6 (ρ : Env) : E.B ρ f6 = true := by
  unfold f6
  rw [sm_B_imp]
  simp only [sm_B_and]
  rintro ⟨p0, p1, p2, p3, p4, p5, p6, p7, p8, p9, p10, p11, p12, p13, p14, p15, p16, p17⟩
  obtain ⟨b0, b1⟩ : (0) ≤ E.I ρ Z41 ∧ E.I ρ Z41 < E.I ρ Z152 := by
    have hl0 := t111_len p0
    try simp only [smA, smW] at *
    have n1 := fn0_nn (ρ := ρ) Z0
    have n2 := fn0_nn (ρ := ρ) (.fn 1 (.pr Z40 (.fn 6 (.pr (.fn 8 (.pr Z41 (.int 4))) (.int 3)))))
    have n3 := fn0_nn (ρ := ρ) Z54
    have n9 := fn0_nn (ρ := ρ) Z1
    omega
  have hrow := (t130_get (i := Z41) p1 (by (try simp only [sm_I_int]); omega) b1).1
  clear b0 b1
  have hl0 := t111_len p0
  try simp only [smA, smW] at *
  have n1 := fn0_nn (ρ := ρ) Z0
  have n2 := fn0_nn (ρ := ρ) (.fn 1 (.pr Z40 (.fn 6 (.pr (.fn 8 (.pr Z41 (.int 4))) (.int 3)))))
  have n3 := fn0_nn (ρ := ρ) Z54
  have n9 := fn0_nn (ρ := ρ) Z1
  omega
noncomputable def f7 : E := (.imp (.fn 27 (.pr (.fn 23 (.pr (.int 3) (.fn 23 (.pr (.int 3) (.fn 23 (.pr (.int 3) (.fn 23 (.pr (.fn 23 (.pr (.int 3) (.fn 10 (.int 0)))) (.fn 10 (.int 0)))))))))) Z40)) (.fn 106 (.pr (.fn 1 (.pr Z40 (.fn 6 (.pr (.fn 8 (.pr Z41 (.int 4))) (.int 3))))) (.fn 1 (.pr Z40 (.fn 6 (.pr (.fn 8 (.pr Z41 (.int 4))) (.int 3))))))))
theorem fact7 (ρ : Env) : E.B ρ f7 = true := by
  unfold f7
  rw [sm_B_imp]
  intro p0
  exact t106_self
noncomputable def f8 : E := (.imp (.and (.fn 101 (.pr Z54 (.pr (.fn 1 (.pr Z40 (.fn 6 (.pr (.fn 8 (.pr Z41 (.int 4))) (.int 3))))) (.pr Z0 (.int 0))))) (.and (.fn 101 (.pr Z166 (.pr (.fn 1 (.pr Z40 (.fn 6 (.pr (.fn 8 (.pr Z41 (.int 4))) (.int 3))))) (.pr Z1 Z2)))) Z3)) (.fn 106 (.pr Z166 Z54)))
theorem fact8 (ρ : Env) : E.B ρ f8 = true := by
  unfold f8
  rw [sm_B_imp]
  simp only [sm_B_and]
  rintro ⟨p0, p1, p2⟩
  exact t106_shuf p1 p0 p2
noncomputable def f9 : E := (.imp Z274 (.not (.cmp .lss (.int 300) (.fn 0 (.fn 1 (.pr Z40 (.fn 6 (.pr (.fn 8 (.pr Z41 (.int 4))) (.int 3)))))))))
theorem fact9 (ρ : Env) : E.B ρ f9 = true := by
  unfold f9
  rw [sm_B_imp]
  simp only [sm_B_and]
  rintro ⟨p0, p1, p2, p3, p4⟩
  obtain ⟨b0, b1⟩ : (0) ≤ E.I ρ Z41 ∧ E.I ρ Z41 < E.I ρ Z152 := by
    have hl0 := t111_len p0
    try simp only [smA, smW] at *
    omega
  have hrow := (t130_get (i := Z41) p1 (by (try simp only [sm_I_int]); omega) b1).1
  clear b0 b1
  have hl0 := t111_len p0
  try simp only [smA, smW] at *
  have n3 := fn0_nn (ρ := ρ) (.fn 1 (.pr Z40 (.fn 6 (.pr (.fn 8 (.pr Z41 (.int 4))) (.int 3)))))
  omega
noncomputable def f10 : E := (.imp (.and Z3 (.and Z153 (.and Z283 (.and Z284 Z104)))) Z277)
theorem fact10 (ρ : Env) : E.B ρ f10 = true := by
  unfold f10
  rw [sm_B_imp]
  simp only [sm_B_and]
  rintro ⟨p0, p1, p2, p3, p4, p5, p6⟩
  obtain ⟨b0, b1⟩ : (0) ≤ E.I ρ Z41 ∧ E.I ρ Z41 < E.I ρ Z152 := by
    have hl0 := t111_len p0
    have hl3 := t111_len p3
    try simp only [smA, smW] at *
    have n1 := fn0_nn (ρ := ρ) Z54
    have n2 := fn0_nn (ρ := ρ) (.fn 1 (.pr Z40 (.fn 6 (.pr (.fn 8 (.pr Z41 (.int 4))) (.int 3)))))
    omega
  have hrow := (t130_get (i := Z41) p1 (by (try simp only [sm_I_int]); omega) b1).1
  clear b0 b1
  have hl0 := t111_len p0
  have hl3 := t111_len p3
  try simp only [smA, smW] at *
  have n1 := fn0_nn (ρ := ρ) Z54
  have n2 := fn0_nn (ρ := ρ) (.fn 1 (.pr Z40 (.fn 6 (.pr (.fn 8 (.pr Z41 (.int 4))) (.int 3)))))
  omega
noncomputable def f11 : E := Z28
theorem fact11 (ρ : Env) : E.B ρ f11 = true := by
  unfold f11
  rw [sm_B_imp]
  simp only [sm_B_and]
  rintro ⟨p0, p1, p2⟩
  have hl0 := t111_len p0
  try simp only [smA, smW] at *
  have n3 := fn0_nn (ρ := ρ) Z1
  omega
noncomputable def f12 : E := Z39
theorem fact12 (ρ : Env) : E.B ρ f12 = true := by
  unfold f12
  rw [sm_B_imp]
  simp only [sm_B_and]
  rintro ⟨p0, p1, p2, p3, p4⟩
  have hl0 := t111_len p0
  try simp only [smA, smW] at *
  have n3 := fn0_nn (ρ := ρ) Z1
  omega
noncomputable def f13 : E := (.imp (.and Z3 (.and Z153 (.and Z283 (.and Z285 (.and Z284 (.and (.not Z276) (.and Z15 (.and Z99 (.and Z21 (.and Z16 Z281)))))))))) Z286)
theorem fact13 (ρ : Env) : E.B ρ f13 = true := by
  unfold f13
  rw [sm_B_imp]
  simp only [sm_B_and]
  rintro ⟨p0, p1, p2, p3, p4, p5, p6, p7, p8, p9, p10, p11, p12, p13, p14, p15, p16⟩
  obtain ⟨b0, b1⟩ : (0) ≤ E.I ρ Z41 ∧ E.I ρ Z41 < E.I ρ Z152 := by
    have hl0 := t111_len p0
    have hl4 := t111_len p4
    try simp only [smA, smW] at *
    have n1 := fn0_nn (ρ := ρ) Z54
    have n2 := fn0_nn (ρ := ρ) (.fn 1 (.pr Z40 (.fn 6 (.pr (.fn 8 (.pr Z41 (.int 4))) (.int 3)))))
    have n5 := fn0_nn (ρ := ρ) Z0
    have n9 := fn0_nn (ρ := ρ) Z1
    omega
  have hrow := (t130_get (i := Z41) p1 (by (try simp only [sm_I_int]); omega) b1).1
  clear b0 b1
  have hl0 := t111_len p0
  have hl4 := t111_len p4
  try simp only [smA, smW] at *
  have n1 := fn0_nn (ρ := ρ) Z54
  have n2 := fn0_nn (ρ := ρ) (.fn 1 (.pr Z40 (.fn 6 (.pr (.fn 8 (.pr Z41 (.int 4))) (.int 3)))))
  have n5 := fn0_nn (ρ := ρ) Z0
  have n9 := fn0_nn (ρ := ρ) Z1
  omega
noncomputable def f14 : E := Z47
theorem fact14 (ρ : Env) : E.B ρ f14 = true := by
  unfold f14
  rw [sm_B_imp]
  intro p0
  have hl0 := t111_len p0
  try simp only [smA, smW] at *
  omega
noncomputable def f15 : E := (.imp (.and Z15 (.and Z3 (.and Z16 (.and Z275 (.and Z285 (.and Z284 (.and Z287 Z289))))))) (.not (.cmp .lss Z288 (.int 0))))
theorem fact15 (ρ : Env) : E.B ρ f15 = true := by
  unfold f15
  rw [sm_B_imp]
  simp only [sm_B_and]
  rintro ⟨p0, p1, p2, p3, p4, p5, p6, p7⟩
  have hl1 := t111_len p1
  have hl5 := t111_len p5
  try simp only [smA, smW] at *
  have n3 := fn0_nn (ρ := ρ) (.fn 1 (.pr Z40 (.fn 6 (.pr (.fn 8 (.pr Z41 (.int 4))) (.int 3)))))
  have n5 := fn0_nn (ρ := ρ) Z166
  omega
noncomputable def f16 : E := (.imp (.and Z75 (.and Z15 (.and Z3 (.and Z21 (.and Z16 (.and Z76 (.and Z11 Z291))))))) Z80)
theorem fact16 (ρ : Env) : E.B ρ f16 = true := by
  unfold f16
  rw [sm_B_imp]
  simp only [sm_B_and]
  rintro ⟨p0, p1, p2, p3, p4, p5, p6, p7, p8, p9, p10, p11⟩
  have g0 : E.I ρ (.fn 0 Z0) = (0) := by
    have hl2 := t111_len p2
    try simp only [smA, smW] at *
    have n5 := fn0_nn (ρ := ρ) Z1
    have n7 := fn0_nn (ρ := ρ) (.fn 1 (.pr Z40 (.fn 6 (.pr (.fn 8 (.pr Z41 (.int 4))) (.int 3)))))
    have n8 := fn0_nn (ρ := ρ) Z0
    omega
  exact t106_nil (by rw [g0] <;> rfl)
noncomputable def f17 : E := Z83
theorem fact17 (ρ : Env) : E.B ρ f17 = true := by
  unfold f17
  rw [sm_B_imp]
  simp only [sm_B_and]
  rintro ⟨p0, p1⟩
  have g0 : E.I ρ (.fn 6 (.pr Z2 (.fn 7 (.pr Z6 Z2)))) = E.I ρ (.fn 0 Z1) := by
    have hl0 := t111_len p0
    try simp only [smA, smW] at *
    have n2 := fn0_nn (ρ := ρ) Z1
    omega
  have g1 : E.I ρ Z2 = E.I ρ Z2 := rfl
  exact t106_sub p0 g0 g1
noncomputable def f18 : E := (.imp Z295 (.not (.cmp .lss Z6 Z288)))
theorem fact18 (ρ : Env) : E.B ρ f18 = true := by
  unfold f18
  rw [sm_B_imp]
  simp only [sm_B_and]
  rintro ⟨p0, p1, p2, p3, p4, p5, p6⟩
  have hl0 := t111_len p0
  have hl2 := t111_len p2
  try simp only [smA, smW] at *
  have n3 := fn0_nn (ρ := ρ) (.fn 1 (.pr Z40 (.fn 6 (.pr (.fn 8 (.pr Z41 (.int 4))) (.int 3)))))
  have n4 := fn0_nn (ρ := ρ) Z166
  have n8 := fn0_nn (ρ := ρ) Z1
  omega
noncomputable def f19 : E := (.imp (.and Z3 (.and Z21 (.and Z16 (.and Z76 (.and Z8 (.and Z148 (.and Z221 (.and Z275 (.and Z218 (.and Z282 Z88)))))))))) Z9)
theorem fact19 (ρ : Env) : E.B ρ f19 = true := by
  unfold f19
  rw [sm_B_imp]
  simp only [sm_B_and]
  rintro ⟨p0, p1, p2, p3, p4, p5, p6, p7, p8, p9, p10, p11⟩
  have hl0 := t111_len p0
  try simp only [smA, smW] at *
  have n4 := fn0_nn (ρ := ρ) Z1
  have n6 := fn0_nn (ρ := ρ) (.fn 1 (.pr Z40 (.fn 6 (.pr (.fn 8 (.pr Z41 (.int 4))) (.int 3)))))
  have n7 := fn0_nn (ρ := ρ) Z0
  omega
noncomputable def f20 : E := (.imp Z89 Z90)
theorem fact20 (ρ : Env) : E.B ρ f20 = true := by
  unfold f20
  rw [sm_B_imp]
  simp only [sm_B_and]
  rintro ⟨p0, p1, p2, p3, p4, p5⟩
  have hl0 := t111_len p0
  have hs0 := I_sublen (ρ := ρ) (l := Z1) (a := Z2) (b := (.fn 6 (.pr Z2 (.fn 7 (.pr Z6 Z2)))))
  try simp only [smA, smW] at *
  have n3 := fn0_nn (ρ := ρ) Z1
  have n4 := fn0_nn (ρ := ρ) (.fn 4 (.pr Z1 (.pr Z2 (.fn 6 (.pr Z2 (.fn 7 (.pr Z6 Z2)))))))
  omega
noncomputable def f21 : E := (.imp Z295 (.not (.cmp .lss (.fn 7 (.pr Z6 Z288)) (.int 0))))
theorem fact21 (ρ : Env) : E.B ρ f21 = true := by
  unfold f21
  rw [sm_B_imp]
  simp only [sm_B_and]
  rintro ⟨p0, p1, p2, p3, p4, p5, p6⟩
  have hl0 := t111_len p0
  have hl2 := t111_len p2
  try simp only [smA, smW] at *
  have n3 := fn0_nn (ρ := ρ) (.fn 1 (.pr Z40 (.fn 6 (.pr (.fn 8 (.pr Z41 (.int 4))) (.int 3)))))
  have n4 := fn0_nn (ρ := ρ) Z166
  have n8 := fn0_nn (ρ := ρ) Z1
  omega
noncomputable def f22 : E := Z97
theorem fact22 (ρ : Env) : E.B ρ f22 = true := by
  unfold f22
  rw [sm_B_imp]
  simp only [sm_B_and]
  rintro ⟨p0, p1, p2, p3, p4⟩
  have hl0 := t111_len p0
  try simp only [smA, smW] at *
  have n3 := fn0_nn (ρ := ρ) Z94
  obtain ⟨a3, ea3, qa3⟩ := cs_i64 ((E.I ρ Z93) + (1))
  try simp only [ea3] at *
  omega
noncomputable def f23 : E := Z107
theorem fact23 (ρ : Env) : E.B ρ f23 = true := by
  unfold f23
  rw [sm_B_imp]
  simp only [sm_B_and]
  rintro ⟨p0, p1, p2, p3⟩
  have hl0 := t111_len p0
  try simp only [smA, smW] at *
  obtain ⟨a2, ea2, qa2⟩ := cs_i64 ((E.I ρ Z41) + (1))
  try simp only [ea2] at *
  omega
noncomputable def f24 : E := (.imp (.and Z3 (.and Z148 (.and Z221 (.and Z275 (.and Z218 Z108))))) Z109)
theorem fact24 (ρ : Env) : E.B ρ f24 = true := by
  unfold f24
  rw [sm_B_imp]
  simp only [sm_B_and]
  rintro ⟨p0, p1, p2, p3, p4, p5, p6, p7, p8, p9, p10, p11⟩
  have hl0 := t111_len p0
  try simp only [smA, smW] at *
  have n2 := fn0_nn (ρ := ρ) (.fn 1 (.pr Z40 (.fn 6 (.pr (.fn 8 (.pr Z41 (.int 4))) (.int 3)))))
  have n7 := fn0_nn (ρ := ρ) Z1
  have n8 := fn0_nn (ρ := ρ) Z0
  obtain ⟨a8, ea8, qa8⟩ := cs_i64 ((E.I ρ Z6) - (E.I ρ Z2))
  try simp only [ea8] at *
  omega
noncomputable def f25 : E := (.imp Z298 Z115)
theorem fact25 (ρ : Env) : E.B ρ f25 = true := by
  unfold f25
  rw [sm_B_imp]
  simp only [sm_B_and]
  rintro ⟨p0, p1, p2, p3, p4, p5, p6, p7, p8, p9, p10, p11⟩
  have hl0 := t111_len p0
  try simp only [smA, smW] at *
  have n2 := fn0_nn (ρ := ρ) (.fn 1 (.pr Z40 (.fn 6 (.pr (.fn 8 (.pr Z41 (.int 4))) (.int 3)))))
  have n6 := fn0_nn (ρ := ρ) Z1
  have n7 := fn0_nn (ρ := ρ) Z0
  omega
noncomputable def f26 : E := (.imp (.and Z3 (.and Z283 (.and Z285 (.and Z284 (.and Z287 (.and Z289 Z36)))))) (.not (.cmp .lss (.int 2147483648) (.fn 7 (.pr Z6 Z288)))))
theorem fact26 (ρ : Env) : E.B ρ f26 = true := by
  unfold f26
  rw [sm_B_imp]
  simp only [sm_B_and]
  rintro ⟨p0, p1, p2, p3, p4, p5, p6, p7, p8, p9⟩
  have hl0 := t111_len p0
  have hl3 := t111_len p3
  try simp only [smA, smW] at *
  have n1 := fn0_nn (ρ := ρ) Z54
  have n2 := fn0_nn (ρ := ρ) (.fn 1 (.pr Z40 (.fn 6 (.pr (.fn 8 (.pr Z41 (.int 4))) (.int 3)))))
  have n5 := fn0_nn (ρ := ρ) Z166
  have n9 := fn0_nn (ρ := ρ) Z1
  omega
noncomputable def f27 : E := Z116
theorem fact27 (ρ : Env) : E.B ρ f27 = true := by
  unfold f27
  rw [sm_B_imp]
  simp only [sm_B_and]
  rintro ⟨p0, p1, p2, p3, p4⟩
  have hl0 := t111_len p0
  try simp only [smA, smW] at *
  have n3 := fn0_nn (ρ := ρ) Z94
  obtain ⟨a3, ea3, qa3⟩ := cs_i64 ((E.I ρ Z93) + (1))
  try simp only [ea3] at *
  omega
noncomputable def f28 : E := Z117
theorem fact28 (ρ : Env) : E.B ρ f28 = true := by
  unfold f28
  rw [sm_B_imp]
  simp only [sm_B_and]
  rintro ⟨p0, p1, p2, p3⟩
  have hl0 := t111_len p0
  try simp only [smA, smW] at *
  obtain ⟨a2, ea2, qa2⟩ := cs_i64 ((E.I ρ Z41) + (1))
  try simp only [ea2] at *
  omega
noncomputable def f29 : E := Z120
theorem fact29 (ρ : Env) : E.B ρ f29 = true := by
  unfold f29
  rw [sm_B_imp]
  simp only [sm_B_and]
  rintro ⟨p0, p1, p2, p3, p4⟩
  have hl0 := t111_len p0
  try simp only [smA, smW] at *
  have n3 := fn0_nn (ρ := ρ) Z1
  omega
noncomputable def f30 : E := (.imp Z3 (.not (.cmp .lss Z6 (.fn 6 (.pr Z288 (.fn 7 (.pr Z6 Z288)))))))
theorem fact30 (ρ : Env) : E.B ρ f30 = true := by
  unfold f30
  rw [sm_B_imp]
  intro p0
  have hl0 := t111_len p0
  try simp only [smA, smW] at *
  omega
noncomputable def f31 : E := Z121
theorem fact31 (ρ : Env) : E.B ρ f31 = true := by
  unfold f31
  rw [sm_B_imp]
  simp only [sm_B_and]
  rintro ⟨p0, p1, p2, p3, p4⟩
  have hl0 := t111_len p0
  try simp only [smA, smW] at *
  have n3 := fn0_nn (ρ := ρ) Z94
  obtain ⟨a3, ea3, qa3⟩ := cs_i64 ((E.I ρ Z93) + (1))
  try simp only [ea3] at *
  omega
noncomputable def f32 : E := Z122
theorem fact32 (ρ : Env) : E.B ρ f32 = true := by
  unfold f32
  rw [sm_B_imp]
  simp only [sm_B_and]
  rintro ⟨p0, p1, p2, p3⟩
  have hl0 := t111_len p0
  try simp only [smA, smW] at *
  obtain ⟨a2, ea2, qa2⟩ := cs_i64 ((E.I ρ Z41) + (1))
  try simp only [ea2] at *
  omega
noncomputable def f33 : E := Z91
theorem fact33 (ρ : Env) : E.B ρ f33 = true := by
  unfold f33
  rw [sm_B_imp]
  intro p0
  try simp only [smA, smW] at *
  omega
noncomputable def f34 : E := (.imp Z298 Z109)
theorem fact34 (ρ : Env) : E.B ρ f34 = true := by
  unfold f34
  rw [sm_B_imp]
  simp only [sm_B_and]
  rintro ⟨p0, p1, p2, p3, p4, p5, p6, p7, p8, p9, p10, p11⟩
  have hl0 := t111_len p0
  try simp only [smA, smW] at *
  have n2 := fn0_nn (ρ := ρ) (.fn 1 (.pr Z40 (.fn 6 (.pr (.fn 8 (.pr Z41 (.int 4))) (.int 3)))))
  have n6 := fn0_nn (ρ := ρ) Z1
  have n7 := fn0_nn (ρ := ρ) Z0
  obtain ⟨a7, ea7, qa7⟩ := cs_i64 ((E.I ρ Z6) - (E.I ρ Z2))
  try simp only [ea7] at *
  omega
noncomputable def f35 : E := (.imp (.and Z285 (.and Z284 (.and Z287 (.and Z289 (.and Z286 (.and Z299 (.and Z3 (.and Z21 (.and Z16 (.and Z76 (.and Z11 (.and Z7 Z291)))))))))))) (.fn 106 (.pr (.fn 10 (.int 0)) Z142)))
theorem fact35 (ρ : Env) : E.B ρ f35 = true := by
  unfold f35
  rw [sm_B_imp]
  simp only [sm_B_and]
  rintro ⟨p0, p1, p2, p3, p4, p5, p6, p7, p8, p9, p10, p11, p12, p13, p14, p15, p16⟩
  have g0 : E.I ρ (.fn 0 Z142) = (0) := by
    have hl1 := t111_len p1
    have hl6 := t111_len p6
    try simp only [smA, smW] at *
    have n3 := fn0_nn (ρ := ρ) (.fn 1 (.pr Z40 (.fn 6 (.pr (.fn 8 (.pr Z41 (.int 4))) (.int 3)))))
    have n4 := fn0_nn (ρ := ρ) Z166
    have n9 := fn0_nn (ρ := ρ) Z1
    have n11 := fn0_nn (ρ := ρ) Z142
    omega
  exact t106_nil (by rw [g0] <;> rfl)
noncomputable def f36 : E := (.imp (.and Z283 (.and Z285 (.and Z284 (.and Z287 (.and Z289 (.and Z3 (.and Z16 (.and Z8 Z275)))))))) (.fn 106 (.pr (.fn 4 (.pr Z1 (.pr Z288 (.fn 6 (.pr Z288 (.fn 7 (.pr Z6 Z288))))))) Z142)))
theorem fact36 (ρ : Env) : E.B ρ f36 = true := by
  unfold f36
  rw [sm_B_imp]
  simp only [sm_B_and]
  rintro ⟨p0, p1, p2, p3, p4, p5, p6, p7, p8⟩
  obtain ⟨g0, g1, g2, g3⟩ : (0) ≤ E.I ρ (.fn 7 (.pr (.fn 0 (.fn 1 (.pr Z40 (.fn 6 (.pr (.fn 8 (.pr Z41 (.int 4))) (.int 3)))))) (.int 1))) ∧ (0) ≤ E.I ρ Z2 ∧ E.I ρ Z288 = E.I ρ (.fn 6 (.pr Z2 (.fn 7 (.pr (.fn 0 (.fn 1 (.pr Z40 (.fn 6 (.pr (.fn 8 (.pr Z41 (.int 4))) (.int 3)))))) (.int 1))))) ∧ E.I ρ (.fn 6 (.pr Z288 (.fn 7 (.pr Z6 Z288)))) = E.I ρ (.fn 0 Z1) := by
    have hl2 := t111_len p2
    have hl5 := t111_len p5
    try simp only [smA, smW] at *
    have n1 := fn0_nn (ρ := ρ) Z54
    have n2 := fn0_nn (ρ := ρ) (.fn 1 (.pr Z40 (.fn 6 (.pr (.fn 8 (.pr Z41 (.int 4))) (.int 3)))))
    have n5 := fn0_nn (ρ := ρ) Z166
    have n9 := fn0_nn (ρ := ρ) Z1
    omega
  exact t106_sub (t111_trans p2 p5 (by (try simp only [sm_I_int]); omega) (by (try simp only [sm_I_int]); omega) g2) g3 rfl
noncomputable def f37 : E := Z123
theorem fact37 (ρ : Env) : E.B ρ f37 = true := by
  unfold f37
  rw [sm_B_imp]
  simp only [sm_B_and]
  rintro ⟨p0, p1, p2, p3, p4⟩
  have hl0 := t111_len p0
  try simp only [smA, smW] at *
  have n3 := fn0_nn (ρ := ρ) Z94
  obtain ⟨a3, ea3, qa3⟩ := cs_i64 ((E.I ρ Z93) + (1))
  try simp only [ea3] at *
  omega
noncomputable def f38 : E := Z124
theorem fact38 (ρ : Env) : E.B ρ f38 = true := by
  unfold f38
  rw [sm_B_imp]
  simp only [sm_B_and]
  rintro ⟨p0, p1, p2, p3⟩
  have hl0 := t111_len p0
  try simp only [smA, smW] at *
  obtain ⟨a2, ea2, qa2⟩ := cs_i64 ((E.I ρ Z41) + (1))
  try simp only [ea2] at *
  omega
noncomputable def f39 : E := (.imp (.and Z15 (.and Z3 (.and Z16 (.and Z76 (.and Z7 (.and Z8 (.and Z148 (.and Z221 (.and Z275 (.and Z218 (.and Z285 (.and Z284 (.and Z287 (.and Z289 (.and Z286 (.and Z299 Z11)))))))))))))))) (.cmp .eql (.fn 0 Z142) (.int 0)))
theorem fact39 (ρ : Env) : E.B ρ f39 = true := by
  unfold f39
  rw [sm_B_imp]
  simp only [sm_B_and]
  rintro ⟨p0, p1, p2, p3, p4, p5, p6, p7, p8, p9, p10, p11, p12, p13, p14, p15, p16⟩
  have hl1 := t111_len p1
  have hl11 := t111_len p11
  try simp only [smA, smW] at *
  have n5 := fn0_nn (ρ := ρ) Z1
  have n7 := fn0_nn (ρ := ρ) (.fn 1 (.pr Z40 (.fn 6 (.pr (.fn 8 (.pr Z41 (.int 4))) (.int 3)))))
  have n9 := fn0_nn (ρ := ρ) Z166
  have n11 := fn0_nn (ρ := ρ) Z142
  omega
noncomputable def f40 : E := (.imp (.and Z3 (.and Z275 (.and Z285 (.and Z284 Z303)))) (.cmp .eql (.fn 7 (.pr Z6 Z288)) (.fn 0 (.fn 4 (.pr Z1 (.pr Z288 (.fn 6 (.pr Z288 (.fn 7 (.pr Z6 Z288))))))))))
theorem fact40 (ρ : Env) : E.B ρ f40 = true := by
  unfold f40
  rw [sm_B_imp]
  simp only [sm_B_and]
  rintro ⟨p0, p1, p2, p3, p4, p5, p6, p7, p8, p9, p10, p11, p12⟩
  have hl0 := t111_len p0
  have hl3 := t111_len p3
  have hs0 := I_sublen (ρ := ρ) (l := Z1) (a := Z288) (b := (.fn 6 (.pr Z288 (.fn 7 (.pr Z6 Z288)))))
  try simp only [smA, smW] at *
  have n1 := fn0_nn (ρ := ρ) (.fn 1 (.pr Z40 (.fn 6 (.pr (.fn 8 (.pr Z41 (.int 4))) (.int 3)))))
  have n4 := fn0_nn (ρ := ρ) Z166
  have n9 := fn0_nn (ρ := ρ) Z1
  have n10 := fn0_nn (ρ := ρ) (.fn 4 (.pr Z1 (.pr Z288 (.fn 6 (.pr Z288 (.fn 7 (.pr Z6 Z288)))))))
  omega
noncomputable def f41 : E := (.imp Z304 (.cmp .eql Z288 (.var 21)))
theorem fact41 (ρ : Env) : E.B ρ f41 = true := by
  unfold f41
  rw [sm_B_imp]
  simp only [sm_B_and]
  rintro ⟨p0, p1, p2, p3⟩
  have hl1 := t111_len p1
  try simp only [smA, smW] at *
  have n4 := fn0_nn (ρ := ρ) (.fn 1 (.pr Z40 (.fn 6 (.pr (.fn 8 (.pr Z41 (.int 4))) (.int 3)))))
  omega
noncomputable def f42 : E := (.imp (.and Z285 (.and Z284 (.and Z287 (.and Z289 (.and Z286 (.and Z299 (.and Z3 Z195))))))) (.fn 111 (.pr Z142 (.pr Z1 Z288))))
theorem fact42 (ρ : Env) : E.B ρ f42 = true := by
  unfold f42
  rw [sm_B_imp]
  simp only [sm_B_and]
  rintro ⟨p0, p1, p2, p3, p4, p5, p6, p7, p8, p9, p10⟩
  obtain ⟨g0, g1, g2⟩ : (0) ≤ E.I ρ (.fn 7 (.pr (.fn 0 (.fn 1 (.pr Z40 (.fn 6 (.pr (.fn 8 (.pr Z41 (.int 4))) (.int 3)))))) (.int 1))) ∧ (0) ≤ E.I ρ Z2 ∧ E.I ρ Z288 = E.I ρ (.fn 6 (.pr Z2 (.fn 7 (.pr (.fn 0 (.fn 1 (.pr Z40 (.fn 6 (.pr (.fn 8 (.pr Z41 (.int 4))) (.int 3)))))) (.int 1))))) := by
    have hl1 := t111_len p1
    have hl6 := t111_len p6
    try simp only [smA, smW] at *
    have n3 := fn0_nn (ρ := ρ) (.fn 1 (.pr Z40 (.fn 6 (.pr (.fn 8 (.pr Z41 (.int 4))) (.int 3)))))
    have n4 := fn0_nn (ρ := ρ) Z166
    have n9 := fn0_nn (ρ := ρ) Z1
    omega
  exact t111_trans p1 p6 (by (try simp only [sm_I_int]); omega) (by (try simp only [sm_I_int]); omega) g2
noncomputable def f43 : E := (.imp (.and Z3 (.and Z148 (.and Z221 (.and Z275 (.and Z218 (.and Z285 (.and Z284 (.and Z287 (.and Z289 (.and Z286 (.and Z299 Z113))))))))))) Z305)
theorem fact43 (ρ : Env) : E.B ρ f43 = true := by
  unfold f43
  rw [sm_B_imp]
  simp only [sm_B_and]
  rintro ⟨p0, p1, p2, p3, p4, p5, p6, p7, p8, p9, p10, p11, p12, p13, p14, p15, p16⟩
  have hl0 := t111_len p0
  have hl6 := t111_len p6
  try simp only [smA, smW] at *
  have n2 := fn0_nn (ρ := ρ) (.fn 1 (.pr Z40 (.fn 6 (.pr (.fn 8 (.pr Z41 (.int 4))) (.int 3)))))
  have n5 := fn0_nn (ρ := ρ) Z166
  have n10 := fn0_nn (ρ := ρ) Z1
  have n11 := fn0_nn (ρ := ρ) Z142
  obtain ⟨a11, ea11, qa11⟩ := cs_i64 ((E.I ρ Z6) - (E.I ρ Z288))
  try simp only [ea11] at *
  omega
noncomputable def f44 : E := (.imp (.and Z3 (.and Z148 (.and Z221 (.and Z275 (.and Z218 (.and Z285 (.and Z284 (.and (.not Z276) (.and Z287 (.and Z289 (.and Z286 (.and (.not Z299) Z194)))))))))))) (.cmp .eql (.fn 7 (.pr Z6 Z288)) (.fn 0 Z142)))
theorem fact44 (ρ : Env) : E.B ρ f44 = true := by
  unfold f44
  rw [sm_B_imp]
  simp only [sm_B_and]
  rintro ⟨p0, p1, p2, p3, p4, p5, p6, p7, p8, p9, p10, p11, p12, p13, p14⟩
  have hl0 := t111_len p0
  have hl6 := t111_len p6
  try simp only [smA, smW] at *
  have n2 := fn0_nn (ρ := ρ) (.fn 1 (.pr Z40 (.fn 6 (.pr (.fn 8 (.pr Z41 (.int 4))) (.int 3)))))
  have n5 := fn0_nn (ρ := ρ) Z0
  have n6 := fn0_nn (ρ := ρ) Z166
  have n11 := fn0_nn (ρ := ρ) Z1
  have n12 := fn0_nn (ρ := ρ) Z142
  omega
noncomputable def f45 : E := (.imp (.and Z3 (.and Z275 (.and Z285 (.and Z284 (.and Z287 (.and Z289 Z300)))))) (.not (.cmp .lss (.int 300) (.fn 7 (.pr Z6 Z288)))))
theorem fact45 (ρ : Env) : E.B ρ f45 = true := by
  unfold f45
  rw [sm_B_imp]
  simp only [sm_B_and]
  rintro ⟨p0, p1, p2, p3, p4, p5, p6, p7, p8, p9, p10, p11⟩
  have hl0 := t111_len p0
  have hl3 := t111_len p3
  try simp only [smA, smW] at *
  have n1 := fn0_nn (ρ := ρ) (.fn 1 (.pr Z40 (.fn 6 (.pr (.fn 8 (.pr Z41 (.int 4))) (.int 3)))))
  have n4 := fn0_nn (ρ := ρ) Z166
  have n9 := fn0_nn (ρ := ρ) Z1
  omega
noncomputable def f46 : E := (.imp (.and Z3 (.and Z148 (.and Z221 (.and Z275 (.and Z218 (.and Z285 (.and Z284 (.and (.not Z276) Z303)))))))) Z305)
theorem fact46 (ρ : Env) : E.B ρ f46 = true := by
  unfold f46
  rw [sm_B_imp]
  simp only [sm_B_and]
  rintro ⟨p0, p1, p2, p3, p4, p5, p6, p7, p8, p9, p10, p11, p12, p13, p14, p15, p16⟩
  have hl0 := t111_len p0
  have hl6 := t111_len p6
  try simp only [smA, smW] at *
  have n2 := fn0_nn (ρ := ρ) (.fn 1 (.pr Z40 (.fn 6 (.pr (.fn 8 (.pr Z41 (.int 4))) (.int 3)))))
  have n5 := fn0_nn (ρ := ρ) Z0
  have n6 := fn0_nn (ρ := ρ) Z166
  have n11 := fn0_nn (ρ := ρ) Z1
  have n12 := fn0_nn (ρ := ρ) Z142
  obtain ⟨a12, ea12, qa12⟩ := cs_i64 ((E.I ρ Z6) - (E.I ρ Z288))
  try simp only [ea12] at *
  omega
noncomputable def f47 : E := (.imp Z304 (.cmp .eql (.var 21) Z288))
theorem fact47 (ρ : Env) : E.B ρ f47 = true := by
  unfold f47
  rw [sm_B_imp]
  simp only [sm_B_and]
  rintro ⟨p0, p1, p2, p3⟩
  have hl1 := t111_len p1
  try simp only [smA, smW] at *
  have n4 := fn0_nn (ρ := ρ) (.fn 1 (.pr Z40 (.fn 6 (.pr (.fn 8 (.pr Z41 (.int 4))) (.int 3)))))
  omega
noncomputable def f48 : E := (.imp (.and Z283 (.and Z285 (.and Z284 (.and Z287 (.and Z289 (.and Z3 (.and Z16 Z275))))))) (.fn 111 (.pr Z142 (.pr Z1 Z288))))
theorem fact48 (ρ : Env) : E.B ρ f48 = true := by
  unfold f48
  rw [sm_B_imp]
  simp only [sm_B_and]
  rintro ⟨p0, p1, p2, p3, p4, p5, p6, p7⟩
  obtain ⟨g0, g1, g2⟩ : (0) ≤ E.I ρ (.fn 7 (.pr (.fn 0 (.fn 1 (.pr Z40 (.fn 6 (.pr (.fn 8 (.pr Z41 (.int 4))) (.int 3)))))) (.int 1))) ∧ (0) ≤ E.I ρ Z2 ∧ E.I ρ Z288 = E.I ρ (.fn 6 (.pr Z2 (.fn 7 (.pr (.fn 0 (.fn 1 (.pr Z40 (.fn 6 (.pr (.fn 8 (.pr Z41 (.int 4))) (.int 3)))))) (.int 1))))) := by
    have hl2 := t111_len p2
    have hl5 := t111_len p5
    try simp only [smA, smW] at *
    have n1 := fn0_nn (ρ := ρ) Z54
    have n2 := fn0_nn (ρ := ρ) (.fn 1 (.pr Z40 (.fn 6 (.pr (.fn 8 (.pr Z41 (.int 4))) (.int 3)))))
    have n5 := fn0_nn (ρ := ρ) Z166
    omega
  exact t111_trans p2 p5 (by (try simp only [sm_I_int]); omega) (by (try simp only [sm_I_int]); omega) g2
noncomputable def facts : List E := [f0, f1, f2, f3, f4, f5, f6, f7, f8, f9, f10, f11, f12, f13, f14, f15, f16, f17, f18, f19, f20, f21, f22, f23, f24, f25, f26, f27, f28, f29, f30, f31, f32, f33, f34, f35, f36, f37, f38, f39, f40, f41, f42, f43, f44, f45, f46, f47, f48]
theorem facts_ok : ∀ e ∈ facts, ∀ ρ : Env, E.B ρ e = true := (all_cons fact0 (all_cons fact1 (all_cons fact2 (all_cons fact3 (all_cons fact4 (all_cons fact5 (all_cons fact6 (all_cons fact7 (all_cons fact8 (all_cons fact9 (all_cons fact10 (all_cons fact11 (all_cons fact12 (all_cons fact13 (all_cons fact14 (all_cons fact15 (all_cons fact16 (all_cons fact17 (all_cons fact18 (all_cons fact19 (all_cons fact20 (all_cons fact21 (all_cons fact22 (all_cons fact23 (all_cons fact24 (all_cons fact25 (all_cons fact26 (all_cons fact27 (all_cons fact28 (all_cons fact29 (all_cons fact30 (all_cons fact31 (all_cons fact32 (all_cons fact33 (all_cons fact34 (all_cons fact35 (all_cons fact36 (all_cons fact37 (all_cons fact38 (all_cons fact39 (all_cons fact40 (all_cons fact41 (all_cons fact42 (all_cons fact43 (all_cons fact44 (all_cons fact45 (all_cons fact46 (all_cons fact47 (all_cons fact48 all_nil)))))))))))))))))))))))))))))))))))))))))))))))))
end l0_3
set_option maxRecDepth 100000 in
theorem body0_0_3 : BodyOk Try.prog (annG (some yG)) yG (tG).less (tG).tmps { (tG).st with pc := (what 1) :: .not (emptyL) :: .not (what 2) :: .not (what 0) :: (tG).st.pc } :=
  body_of_check good (facts := l0_3.facts) l0_3.facts_ok (anns := [annH]) (plainAnns_ok _ (by kernel_rfl)) (nats := natl11) natl11_ok (n := 3000) (by kernel_rfl) (by kernel_rfl)
namespace l0_4
noncomputable def f0 : E := Z35
theorem fact0 (ρ : Env) : E.B ρ f0 = true := by
  unfold f0
  rw [sm_B_imp]
  simp only [sm_B_and]
  rintro ⟨p0, p1, p2, p3⟩
  have hl0 := t111_len p0
  try simp only [smA, smW] at *
  have n3 := fn0_nn (ρ := ρ) Z1
  obtain ⟨a3, ea3, qa3⟩ := cs_i64 ((E.I ρ Z6) - (E.I ρ Z2))
  try simp only [ea3] at *
  omega
noncomputable def f1 : E := Z216
theorem fact1 (ρ : Env) : E.B ρ f1 = true := by
  unfold f1
  rw [sm_B_imp]
  simp only [sm_B_and]
  rintro ⟨p0, p1, p2, p3, p4, p5⟩
  have hl0 := t111_len p0
  try simp only [smA, smW] at *
  have n3 := fn0_nn (ρ := ρ) Z1
  obtain ⟨a3, ea3, qa3⟩ := cs_i64 ((E.I ρ Z2) + (1))
  try simp only [ea3] at *
  omega
noncomputable def f2 : E := Z47
theorem fact2 (ρ : Env) : E.B ρ f2 = true := by
  unfold f2
  rw [sm_B_imp]
  intro p0
  have hl0 := t111_len p0
  try simp only [smA, smW] at *
  omega
noncomputable def f3 : E := Z217
theorem fact3 (ρ : Env) : E.B ρ f3 = true := by
  unfold f3
  rw [sm_B_imp]
  simp only [sm_B_and]
  rintro ⟨p0, p1, p2, p3, p4, p5, p6⟩
  have hl0 := t111_len p0
  try simp only [smA, smW] at *
  have n3 := fn0_nn (ρ := ρ) Z1
  obtain ⟨a3, ea3, qa3⟩ := cs_i64 ((E.I ρ Z6) - (E.I ρ Z2))
  try simp only [ea3] at *
  obtain ⟨a4, ea4, qa4⟩ := cs_i64 ((E.I ρ Z2) + (1))
  try simp only [ea4] at *
  omega
noncomputable def f4 : E := (.imp (.and Z220 (.and Z75 (.and Z15 (.and Z3 (.and Z21 (.and Z16 (.and Z76 (.and Z11 (.and Z8 (.and Z148 (.and Z221 (.and Z275 Z219)))))))))))) Z80)
theorem fact4 (ρ : Env) : E.B ρ f4 = true := by
  unfold f4
  rw [sm_B_imp]
  simp only [sm_B_and]
  rintro ⟨p0, p1, p2, p3, p4, p5, p6, p7, p8, p9, p10, p11, p12⟩
  have g0 : E.I ρ (.fn 0 Z0) = (0) := by
    have hl3 := t111_len p3
    try simp only [smA, smW] at *
    have n5 := fn0_nn (ρ := ρ) Z1
    have n7 := fn0_nn (ρ := ρ) (.fn 1 (.pr Z40 (.fn 6 (.pr (.fn 8 (.pr Z41 (.int 4))) (.int 3)))))
    have n8 := fn0_nn (ρ := ρ) Z0
    omega
  exact t106_nil (by rw [g0] <;> rfl)
noncomputable def f5 : E := Z83
theorem fact5 (ρ : Env) : E.B ρ f5 = true := by
  unfold f5
  rw [sm_B_imp]
  simp only [sm_B_and]
  rintro ⟨p0, p1⟩
  have g0 : E.I ρ (.fn 6 (.pr Z2 (.fn 7 (.pr Z6 Z2)))) = E.I ρ (.fn 0 Z1) := by
    have hl0 := t111_len p0
    try simp only [smA, smW] at *
    have n2 := fn0_nn (ρ := ρ) Z1
    omega
  have g1 : E.I ρ Z2 = E.I ρ Z2 := rfl
  exact t106_sub p0 g0 g1
noncomputable def f6 : E := Z232
theorem fact6 (ρ : Env) : E.B ρ f6 = true := by
  unfold f6
  rw [sm_B_imp]
  simp only [sm_B_and]
  rintro ⟨p0, p1, p2, p3, p4⟩
  have g0 : E.I ρ (.fn 0 Z0) = (0) := by
    have hl3 := t111_len p3
    try simp only [smA, smW] at *
    have n5 := fn0_nn (ρ := ρ) Z0
    omega
  exact t106_nil (by rw [g0] <;> rfl)
noncomputable def f7 : E := Z28
theorem fact7 (ρ : Env) : E.B ρ f7 = true := by
  unfold f7
  rw [sm_B_imp]
  simp only [sm_B_and]
  rintro ⟨p0, p1, p2⟩
  have hl0 := t111_len p0
  try simp only [smA, smW] at *
  have n3 := fn0_nn (ρ := ρ) Z1
  omega
noncomputable def f8 : E := (.imp (.and Z3 (.and Z21 (.and Z16 (.and Z76 (.and Z8 (.and Z148 (.and Z221 (.and Z275 (.and Z219 (.and Z220 Z88)))))))))) Z9)
theorem fact8 (ρ : Env) : E.B ρ f8 = true := by
  unfold f8
  rw [sm_B_imp]
  simp only [sm_B_and]
  rintro ⟨p0, p1, p2, p3, p4, p5, p6, p7, p8, p9, p10, p11⟩
  have hl0 := t111_len p0
  try simp only [smA, smW] at *
  have n4 := fn0_nn (ρ := ρ) Z1
  have n6 := fn0_nn (ρ := ρ) (.fn 1 (.pr Z40 (.fn 6 (.pr (.fn 8 (.pr Z41 (.int 4))) (.int 3)))))
  have n7 := fn0_nn (ρ := ρ) Z0
  omega
noncomputable def f9 : E := Z237
theorem fact9 (ρ : Env) : E.B ρ f9 = true := by
  unfold f9
  rw [sm_B_imp]
  simp only [sm_B_and]
  rintro ⟨p0, p1, p2, p3, p4, p5, p6⟩
  have hl0 := t111_len p0
  have hs0 := I_sublen (ρ := ρ) (l := Z1) (a := Z2) (b := (.fn 6 (.pr Z2 (.fn 7 (.pr Z6 Z2)))))
  try simp only [smA, smW] at *
  have n4 := fn0_nn (ρ := ρ) Z1
  have n5 := fn0_nn (ρ := ρ) (.fn 4 (.pr Z1 (.pr Z2 (.fn 6 (.pr Z2 (.fn 7 (.pr Z6 Z2)))))))
  obtain ⟨a5, ea5, qa5⟩ := cs_i64 ((E.I ρ Z6) - (E.I ρ Z2))
  try simp only [ea5] at *
  omega
noncomputable def f10 : E := Z240
theorem fact10 (ρ : Env) : E.B ρ f10 = true := by
  unfold f10
  rw [sm_B_imp]
  simp only [sm_B_and]
  rintro ⟨p0, p1, p2, p3, p4⟩
  have hl0 := t111_len p0
  try simp only [smA, smW] at *
  have n3 := fn0_nn (ρ := ρ) Z1
  have n5 := fn0_nn (ρ := ρ) Z0
  omega
noncomputable def f11 : E := Z244
theorem fact11 (ρ : Env) : E.B ρ f11 = true := by
  unfold f11
  rw [sm_B_imp]
  simp only [sm_B_and]
  rintro ⟨p0, p1, p2, p3, p4, p5, p6, p7⟩
  have hl0 := t111_len p0
  have hs0 := I_sublen (ρ := ρ) (l := Z1) (a := Z2) (b := (.fn 6 (.pr Z2 (.fn 7 (.pr Z6 Z2)))))
  try simp only [smA, smW] at *
  have n4 := fn0_nn (ρ := ρ) Z1
  have n5 := fn0_nn (ρ := ρ) (.fn 4 (.pr Z1 (.pr Z2 (.fn 6 (.pr Z2 (.fn 7 (.pr Z6 Z2)))))))
  obtain ⟨a5, ea5, qa5⟩ := cs_i64 ((E.I ρ Z6) - (E.I ρ Z2))
  try simp only [ea5] at *
  omega
noncomputable def f12 : E := Z39
theorem fact12 (ρ : Env) : E.B ρ f12 = true := by
  unfold f12
  rw [sm_B_imp]
  simp only [sm_B_and]
  rintro ⟨p0, p1, p2, p3, p4⟩
  have hl0 := t111_len p0
  try simp only [smA, smW] at *
  have n3 := fn0_nn (ρ := ρ) Z1
  omega
noncomputable def f13 : E := Z97
theorem fact13 (ρ : Env) : E.B ρ f13 = true := by
  unfold f13
  rw [sm_B_imp]
  simp only [sm_B_and]
  rintro ⟨p0, p1, p2, p3, p4⟩
  have hl0 := t111_len p0
  try simp only [smA, smW] at *
  have n3 := fn0_nn (ρ := ρ) Z94
  obtain ⟨a3, ea3, qa3⟩ := cs_i64 ((E.I ρ Z93) + (1))
  try simp only [ea3] at *
  omega
noncomputable def f14 : E := Z107
theorem fact14 (ρ : Env) : E.B ρ f14 = true := by
  unfold f14
  rw [sm_B_imp]
  simp only [sm_B_and]
  rintro ⟨p0, p1, p2, p3⟩
  have hl0 := t111_len p0
  try simp only [smA, smW] at *
  obtain ⟨a2, ea2, qa2⟩ := cs_i64 ((E.I ρ Z41) + (1))
  try simp only [ea2] at *
  omega
noncomputable def f15 : E := (.imp (.and Z3 (.and Z148 (.and Z221 (.and Z275 Z245)))) Z109)
theorem fact15 (ρ : Env) : E.B ρ f15 = true := by
  unfold f15
  rw [sm_B_imp]
  simp only [sm_B_and]
  rintro ⟨p0, p1, p2, p3, p4, p5, p6, p7, p8, p9, p10, p11, p12, p13⟩
  have hl0 := t111_len p0
  try simp only [smA, smW] at *
  have n2 := fn0_nn (ρ := ρ) (.fn 1 (.pr Z40 (.fn 6 (.pr (.fn 8 (.pr Z41 (.int 4))) (.int 3)))))
  have n7 := fn0_nn (ρ := ρ) Z1
  have n8 := fn0_nn (ρ := ρ) Z0
  obtain ⟨a8, ea8, qa8⟩ := cs_i64 ((E.I ρ Z6) - (E.I ρ Z2))
  try simp only [ea8] at *
  omega
noncomputable def f16 : E := (.imp Z309 Z115)
theorem fact16 (ρ : Env) : E.B ρ f16 = true := by
  unfold f16
  rw [sm_B_imp]
  simp only [sm_B_and]
  rintro ⟨p0, p1, p2, p3, p4, p5, p6, p7, p8, p9, p10, p11, p12⟩
  have hl0 := t111_len p0
  try simp only [smA, smW] at *
  have n2 := fn0_nn (ρ := ρ) (.fn 1 (.pr Z40 (.fn 6 (.pr (.fn 8 (.pr Z41 (.int 4))) (.int 3)))))
  have n7 := fn0_nn (ρ := ρ) Z1
  have n8 := fn0_nn (ρ := ρ) Z0
  obtain ⟨a8, ea8, qa8⟩ := cs_i64 ((E.I ρ Z6) - (E.I ρ Z2))
  try simp only [ea8] at *
  omega
noncomputable def f17 : E := Z256
theorem fact17 (ρ : Env) : E.B ρ f17 = true := by
  unfold f17
  rw [sm_B_imp]
  simp only [sm_B_and]
  rintro ⟨p0, p1, p2, p3, p4⟩
  have hl0 := t111_len p0
  try simp only [smA, smW] at *
  have n5 := fn0_nn (ρ := ρ) Z0
  obtain ⟨a5, ea5, qa5⟩ := cs_i64 ((E.I ρ Z6) - (E.I ρ Z2))
  try simp only [ea5] at *
  omega
noncomputable def f18 : E := Z260
theorem fact18 (ρ : Env) : E.B ρ f18 = true := by
  unfold f18
  rw [sm_B_imp]
  simp only [sm_B_and]
  rintro ⟨p0, p1, p2, p3, p4, p5, p6, p7⟩
  have hl0 := t111_len p0
  try simp only [smA, smW] at *
  have n4 := fn0_nn (ρ := ρ) Z1
  have n5 := fn0_nn (ρ := ρ) Z0
  obtain ⟨a5, ea5, qa5⟩ := cs_i64 ((E.I ρ Z6) - (E.I ρ Z2))
  try simp only [ea5] at *
  omega
noncomputable def f19 : E := Z116
theorem fact19 (ρ : Env) : E.B ρ f19 = true := by
  unfold f19
  rw [sm_B_imp]
  simp only [sm_B_and]
  rintro ⟨p0, p1, p2, p3, p4⟩
  have hl0 := t111_len p0
  try simp only [smA, smW] at *
  have n3 := fn0_nn (ρ := ρ) Z94
  obtain ⟨a3, ea3, qa3⟩ := cs_i64 ((E.I ρ Z93) + (1))
  try simp only [ea3] at *
  omega
noncomputable def f20 : E := Z117
theorem fact20 (ρ : Env) : E.B ρ f20 = true := by
  unfold f20
  rw [sm_B_imp]
  simp only [sm_B_and]
  rintro ⟨p0, p1, p2, p3⟩
  have hl0 := t111_len p0
  try simp only [smA, smW] at *
  obtain ⟨a2, ea2, qa2⟩ := cs_i64 ((E.I ρ Z41) + (1))
  try simp only [ea2] at *
  omega
noncomputable def f21 : E := Z91
theorem fact21 (ρ : Env) : E.B ρ f21 = true := by
  unfold f21
  rw [sm_B_imp]
  intro p0
  try simp only [smA, smW] at *
  omega
noncomputable def f22 : E := (.imp Z309 Z109)
theorem fact22 (ρ : Env) : E.B ρ f22 = true := by
  unfold f22
  rw [sm_B_imp]
  simp only [sm_B_and]
  rintro ⟨p0, p1, p2, p3, p4, p5, p6, p7, p8, p9, p10, p11, p12⟩
  have hl0 := t111_len p0
  try simp only [smA, smW] at *
  have n2 := fn0_nn (ρ := ρ) (.fn 1 (.pr Z40 (.fn 6 (.pr (.fn 8 (.pr Z41 (.int 4))) (.int 3)))))
  have n7 := fn0_nn (ρ := ρ) Z1
  have n8 := fn0_nn (ρ := ρ) Z0
  obtain ⟨a8, ea8, qa8⟩ := cs_i64 ((E.I ρ Z6) - (E.I ρ Z2))
  try simp only [ea8] at *
  omega
noncomputable def f23 : E := Z121
theorem fact23 (ρ : Env) : E.B ρ f23 = true := by
  unfold f23
  rw [sm_B_imp]
  simp only [sm_B_and]
  rintro ⟨p0, p1, p2, p3, p4⟩
  have hl0 := t111_len p0
  try simp only [smA, smW] at *
  have n3 := fn0_nn (ρ := ρ) Z94
  obtain ⟨a3, ea3, qa3⟩ := cs_i64 ((E.I ρ Z93) + (1))
  try simp only [ea3] at *
  omega
noncomputable def f24 : E := Z122
theorem fact24 (ρ : Env) : E.B ρ f24 = true := by
  unfold f24
  rw [sm_B_imp]
  simp only [sm_B_and]
  rintro ⟨p0, p1, p2, p3⟩
  have hl0 := t111_len p0
  try simp only [smA, smW] at *
  obtain ⟨a2, ea2, qa2⟩ := cs_i64 ((E.I ρ Z41) + (1))
  try simp only [ea2] at *
  omega
noncomputable def f25 : E := Z261
theorem fact25 (ρ : Env) : E.B ρ f25 = true := by
  unfold f25
  rw [sm_B_imp]
  simp only [sm_B_and]
  rintro ⟨p0, p1, p2, p3, p4, p5, p6, p7⟩
  have hl0 := t111_len p0
  try simp only [smA, smW] at *
  have n4 := fn0_nn (ρ := ρ) Z1
  have n5 := fn0_nn (ρ := ρ) Z0
  obtain ⟨a5, ea5, qa5⟩ := cs_i64 ((E.I ρ Z6) - (E.I ρ Z2))
  try simp only [ea5] at *
  omega
noncomputable def f26 : E := (.imp (.and Z3 Z263) Z90)
theorem fact26 (ρ : Env) : E.B ρ f26 = true := by
  unfold f26
  rw [sm_B_imp]
  simp only [sm_B_and]
  rintro ⟨p0, p1, p2, p3, p4, p5, p6⟩
  have hl0 := t111_len p0
  have hs0 := I_sublen (ρ := ρ) (l := Z1) (a := Z2) (b := (.fn 6 (.pr Z2 (.fn 7 (.pr Z6 Z2)))))
  try simp only [smA, smW] at *
  have n3 := fn0_nn (ρ := ρ) Z1
  have n4 := fn0_nn (ρ := ρ) (.fn 4 (.pr Z1 (.pr Z2 (.fn 6 (.pr Z2 (.fn 7 (.pr Z6 Z2)))))))
  obtain ⟨a4, ea4, qa4⟩ := cs_i64 ((E.I ρ Z2) + (1))
  try simp only [ea4] at *
  omega
noncomputable def f27 : E := Z123
theorem fact27 (ρ : Env) : E.B ρ f27 = true := by
  unfold f27
  rw [sm_B_imp]
  simp only [sm_B_and]
  rintro ⟨p0, p1, p2, p3, p4⟩
  have hl0 := t111_len p0
  try simp only [smA, smW] at *
  have n3 := fn0_nn (ρ := ρ) Z94
  obtain ⟨a3, ea3, qa3⟩ := cs_i64 ((E.I ρ Z93) + (1))
  try simp only [ea3] at *
  omega
noncomputable def f28 : E := Z124
theorem fact28 (ρ : Env) : E.B ρ f28 = true := by
  unfold f28
  rw [sm_B_imp]
  simp only [sm_B_and]
  rintro ⟨p0, p1, p2, p3⟩
  have hl0 := t111_len p0
  try simp only [smA, smW] at *
  obtain ⟨a2, ea2, qa2⟩ := cs_i64 ((E.I ρ Z41) + (1))
  try simp only [ea2] at *
  omega
noncomputable def f29 : E := (.imp (.and Z3 (.and Z148 (.and Z221 (.and Z275 (.and Z219 Z263))))) Z115)
theorem fact29 (ρ : Env) : E.B ρ f29 = true := by
  unfold f29
  rw [sm_B_imp]
  simp only [sm_B_and]
  rintro ⟨p0, p1, p2, p3, p4, p5, p6, p7, p8, p9, p10⟩
  have hl0 := t111_len p0
  try simp only [smA, smW] at *
  have n2 := fn0_nn (ρ := ρ) (.fn 1 (.pr Z40 (.fn 6 (.pr (.fn 8 (.pr Z41 (.int 4))) (.int 3)))))
  have n5 := fn0_nn (ρ := ρ) Z1
  have n6 := fn0_nn (ρ := ρ) Z0
  obtain ⟨a6, ea6, qa6⟩ := cs_i64 ((E.I ρ Z2) + (1))
  try simp only [ea6] at *
  omega
noncomputable def f30 : E := (.imp (.and Z3 Z267) Z90)
theorem fact30 (ρ : Env) : E.B ρ f30 = true := by
  unfold f30
  rw [sm_B_imp]
  simp only [sm_B_and]
  rintro ⟨p0, p1, p2, p3, p4, p5, p6, p7, p8⟩
  have hl0 := t111_len p0
  have hs0 := I_sublen (ρ := ρ) (l := Z1) (a := Z2) (b := (.fn 6 (.pr Z2 (.fn 7 (.pr Z6 Z2)))))
  try simp only [smA, smW] at *
  have n4 := fn0_nn (ρ := ρ) Z1
  have n5 := fn0_nn (ρ := ρ) (.fn 4 (.pr Z1 (.pr Z2 (.fn 6 (.pr Z2 (.fn 7 (.pr Z6 Z2)))))))
  obtain ⟨a5, ea5, qa5⟩ := cs_i64 ((E.I ρ Z6) - (E.I ρ Z2))
  try simp only [ea5] at *
  obtain ⟨a6, ea6, qa6⟩ := cs_i64 ((E.I ρ Z2) + (1))
  try simp only [ea6] at *
  omega
noncomputable def f31 : E := Z120
theorem fact31 (ρ : Env) : E.B ρ f31 = true := by
  unfold f31
  rw [sm_B_imp]
  simp only [sm_B_and]
  rintro ⟨p0, p1, p2, p3, p4⟩
  have hl0 := t111_len p0
  try simp only [smA, smW] at *
  have n3 := fn0_nn (ρ := ρ) Z1
  omega
noncomputable def f32 : E := (.imp Z313 Z115)
theorem fact32 (ρ : Env) : E.B ρ f32 = true := by
  unfold f32
  rw [sm_B_imp]
  simp only [sm_B_and]
  rintro ⟨p0, p1, p2, p3, p4, p5, p6, p7, p8, p9, p10, p11, p12⟩
  have hl0 := t111_len p0
  try simp only [smA, smW] at *
  have n2 := fn0_nn (ρ := ρ) (.fn 1 (.pr Z40 (.fn 6 (.pr (.fn 8 (.pr Z41 (.int 4))) (.int 3)))))
  have n6 := fn0_nn (ρ := ρ) Z1
  have n7 := fn0_nn (ρ := ρ) Z0
  obtain ⟨a7, ea7, qa7⟩ := cs_i64 ((E.I ρ Z6) - (E.I ρ Z2))
  try simp only [ea7] at *
  obtain ⟨a8, ea8, qa8⟩ := cs_i64 ((E.I ρ Z2) + (1))
  try simp only [ea8] at *
  omega
noncomputable def f33 : E := (.imp (.and Z3 (.and Z148 (.and Z221 (.and Z275 Z272)))) Z109)
theorem fact33 (ρ : Env) : E.B ρ f33 = true := by
  unfold f33
  rw [sm_B_imp]
  simp only [sm_B_and]
  rintro ⟨p0, p1, p2, p3, p4, p5, p6, p7, p8, p9, p10, p11⟩
  have hl0 := t111_len p0
  try simp only [smA, smW] at *
  have n2 := fn0_nn (ρ := ρ) (.fn 1 (.pr Z40 (.fn 6 (.pr (.fn 8 (.pr Z41 (.int 4))) (.int 3)))))
  have n5 := fn0_nn (ρ := ρ) Z1
  have n6 := fn0_nn (ρ := ρ) Z0
  obtain ⟨a6, ea6, qa6⟩ := cs_i64 ((E.I ρ Z6) - (E.I ρ Z2))
  try simp only [ea6] at *
  obtain ⟨a7, ea7, qa7⟩ := cs_i64 ((E.I ρ Z2) + (1))
  try simp only [ea7] at *
  omega
noncomputable def f34 : E := (.imp Z313 Z109)
theorem fact34 (ρ : Env) : E.B ρ f34 = true := by
  unfold f34
  rw [sm_B_imp]
  simp only [sm_B_and]
  rintro ⟨p0, p1, p2, p3, p4, p5, p6, p7, p8, p9, p10, p11, p12⟩
  have hl0 := t111_len p0
  try simp only [smA, smW] at *
  have n2 := fn0_nn (ρ := ρ) (.fn 1 (.pr Z40 (.fn 6 (.pr (.fn 8 (.pr Z41 (.int 4))) (.int 3)))))
  have n6 := fn0_nn (ρ := ρ) Z1
  have n7 := fn0_nn (ρ := ρ) Z0
  obtain ⟨a7, ea7, qa7⟩ := cs_i64 ((E.I ρ Z6) - (E.I ρ Z2))
  try simp only [ea7] at *
  obtain ⟨a8, ea8, qa8⟩ := cs_i64 ((E.I ρ Z2) + (1))
  try simp only [ea8] at *
  omega
noncomputable def facts : List E := [f0, f1, f2, f3, f4, f5, f6, f7, f8, f9, f10, f11, f12, f13, f14, f15, f16, f17, f18, f19, f20, f21, f22, f23, f24, f25, f26, f27, f28, f29, f30, f31, f32, f33, f34]
theorem facts_ok : ∀ e ∈ facts, ∀ ρ : Env, E.B ρ e = true := (all_cons fact0 (all_cons fact1 (all_cons fact2 (all_cons fact3 (all_cons fact4 (all_cons fact5 (all_cons fact6 (all_cons fact7 (all_cons fact8 (all_cons fact9 (all_cons fact10 (all_cons fact11 (all_cons fact12 (all_cons fact13 (all_cons fact14 (all_cons fact15 (all_cons fact16 (all_cons fact17 (all_cons fact18 (all_cons fact19 (all_cons fact20 (all_cons fact21 (all_cons fact22 (all_cons fact23 (all_cons fact24 (all_cons fact25 (all_cons fact26 (all_cons fact27 (all_cons fact28 (all_cons fact29 (all_cons fact30 (all_cons fact31 (all_cons fact32 (all_cons fact33 (all_cons fact34 all_nil)))))))))))))))))))))))))))))))))))
end l0_4
set_option maxRecDepth 100000 in
theorem body0_0_4 : BodyOk Try.prog (annG (some yG)) yG (tG).less (tG).tmps { (tG).st with pc := .not (what 1) :: .not (emptyL) :: .not (what 2) :: .not (what 0) :: (tG).st.pc } :=
  body_of_check good (facts := l0_4.facts) l0_4.facts_ok (anns := [annH]) (plainAnns_ok _ (by kernel_rfl)) (nats := natl11) natl11_ok (n := 3000) (by kernel_rfl) (by kernel_rfl)
theorem body0_0 : BodyOk Try.prog (annG (some yG)) yG (tG).less (tG).tmps (tG).st := (BodyOk.cases (what 0) body0_0_0 (BodyOk.cases (what 2) body0_0_1 (BodyOk.cases (emptyL) body0_0_2 (BodyOk.cases (what 1) body0_0_3 body0_0_4))))
end Go.Proofs.Ytmcifbikfjmmfaa.drawsPlays

/-
  ViewEqual: contracts of functions, part 3.
-/
import Derived.Test.YtoicbojdnjcmiaaRows
import Derived.Test.YtoicbojdnjcmiaaTheory
import Derived.WalkKit
import Derived.ProofKit
import Derived.OpenShut
import Derived.ChangeOld
import Derived.Below
import Derived.KernelRfl
import Derived.Lib.SmallJoins
import Derived.Test.YtoicbojdnjcmiaaViewEqualPartb
namespace Go.Proofs.Ytoicbojdnjcmiaa.viewEqual
open Go.ChangeShapes Go.WideShapes Go.ChangeAt Go.RowKit
open Go.SX
set_option linter.unusedVariables false
set_option linter.unusedSimpArgs false
set_option maxRecDepth 100000
noncomputable section
abbrev X0 : E := .var 0
abbrev X1 : E := .fn 119 X0
abbrev X2 : E := .var 5
abbrev X3 : E := .cmp .eql (.var 6) (.fn 0 X2)
abbrev X4 : E := .fn 112 X0
abbrev X5 : E := .not (.cmp .lss (.int 10) (.var 2))
abbrev X6 : E := .not (.cmp .lss (.var 2) (.int 1))
abbrev X7 : E := .var 1
abbrev X8 : E := .cmp .eql (.var 2) (.fn 0 X7)
abbrev X9 : E := .not (.cmp .lss (.fn 6 (.pr (.var 2) (.fn 8 (.pr (.int 10) (.int 1))))) (.var 6))
abbrev X10 : E := .not (.cmp .lss (.var 6) (.var 2))
abbrev X11 : E := .and X8 (.and X9 (.and X10 X3))
abbrev X12 : E := .and X6 X11
abbrev X13 : E := .and X5 X12
abbrev X14 : E := .and X4 X13
abbrev X15 : E := .var 9
abbrev X16 : E := .cmp .eql (.var 10) (.fn 0 X15)
abbrev X17 : E := .not (.cmp .lss (.fn 6 (.pr (.var 6) (.fn 8 (.pr (.int 10) (.int 4))))) (.var 10))
abbrev X18 : E := .not (.cmp .lss (.var 10) (.var 6))
abbrev X19 : E := .var 14
abbrev X20 : E := .var 13
abbrev X21 : E := .cmp .eql X19 (.fn 0 X20)
abbrev X22 : E := .not (.cmp .lss (.fn 6 (.pr (.var 10) (.fn 8 (.pr (.int 10) (.int 2))))) X19)
abbrev X23 : E := .not (.cmp .lss X19 (.var 10))
abbrev X24 : E := .and X16 (.and X22 (.and X23 X21))
abbrev X25 : E := .and X18 X24
abbrev X26 : E := .and X17 X25
abbrev X27 : E := .and X3 X26
abbrev X28 : E := .and X10 X27
abbrev X29 : E := .and X9 X28
abbrev X30 : E := .and X8 X29
abbrev X31 : E := .and X6 X30
abbrev X32 : E := .and X5 X31
abbrev X33 : E := .and X4 X32
abbrev X34 : E := .var 18
abbrev X35 : E := .var 17
abbrev X36 : E := .cmp .eql X34 (.fn 0 X35)
abbrev X37 : E := .not (.cmp .lss (.fn 6 (.pr X19 (.fn 8 (.pr (.int 10) (.fn 6 (.pr (.int 1) (.fn 8 (.pr (.int 12) (.fn 9 (.pr (.fn 1 (.pr X0 (.int 8))) (.int 12))))))))))) X34)
abbrev X38 : E := .not (.cmp .lss X34 X19)
abbrev X39 : E := .and X21 (.and X37 (.and X38 X36))
abbrev X40 : E := .and X23 X39
abbrev X41 : E := .and X22 X40
abbrev X42 : E := .and X16 X41
abbrev X43 : E := .and X18 X42
abbrev X44 : E := .and X17 X43
abbrev X45 : E := .and X3 X44
abbrev X46 : E := .and X10 X45
abbrev X47 : E := .and X9 X46
abbrev X48 : E := .and X8 X47
abbrev X49 : E := .and X6 X48
abbrev X50 : E := .and X5 X49
abbrev X51 : E := .and X4 X50
abbrev X52 : E := .var 22
abbrev X53 : E := .var 21
abbrev X54 : E := .cmp .eql X52 (.fn 0 X53)
abbrev X55 : E := .not (.cmp .lss (.fn 6 (.pr X34 (.fn 8 (.pr (.int 10) (.fn 6 (.pr (.int 1) (.fn 8 (.pr (.int 12) (.fn 9 (.pr (.fn 1 (.pr X0 (.int 9))) (.int 12))))))))))) X52)
abbrev X56 : E := .not (.cmp .lss X52 X34)
abbrev X57 : E := .and X36 (.and X55 (.and X56 X54))
abbrev X58 : E := .and X38 X57
abbrev X59 : E := .and X37 X58
abbrev X60 : E := .and X21 X59
abbrev X61 : E := .and X23 X60
abbrev X62 : E := .and X22 X61
abbrev X63 : E := .and X16 X62
abbrev X64 : E := .and X18 X63
abbrev X65 : E := .and X17 X64
abbrev X66 : E := .and X3 X65
abbrev X67 : E := .and X10 X66
abbrev X68 : E := .and X9 X67
abbrev X69 : E := .and X8 X68
abbrev X70 : E := .and X6 X69
abbrev X71 : E := .and X5 X70
abbrev X72 : E := .and X4 X71
abbrev X73 : E := .var 25
abbrev X74 : E := .cmp .eql (.var 26) (.fn 0 X73)
abbrev X75 : E := .not (.cmp .lss (.fn 6 (.pr X52 (.fn 8 (.pr (.int 10) (.int 3))))) (.var 26))
abbrev X76 : E := .not (.cmp .lss (.var 26) X52)
abbrev X77 : E := .var 29
abbrev X78 : E := .cmp .eql (.var 30) (.fn 0 X77)
abbrev X79 : E := .not (.cmp .lss (.fn 6 (.pr (.var 26) (.fn 8 (.pr (.int 10) (.int 2))))) (.var 30))
abbrev X80 : E := .not (.cmp .lss (.var 30) (.var 26))
abbrev X81 : E := .var 34
abbrev X82 : E := .var 33
abbrev X83 : E := .cmp .eql X81 (.fn 0 X82)
abbrev X84 : E := .not (.cmp .lss (.fn 6 (.pr (.var 30) (.fn 8 (.pr (.int 10) (.int 1))))) X81)
abbrev X85 : E := .not (.cmp .lss X81 (.var 30))
abbrev X86 : E := .and X78 (.and X84 (.and X85 X83))
abbrev X87 : E := .and X80 X86
abbrev X88 : E := .and X79 X87
abbrev X89 : E := .and X74 X88
abbrev X90 : E := .and X76 X89
abbrev X91 : E := .and X75 X90
abbrev X92 : E := .and X54 X91
abbrev X93 : E := .and X56 X92
abbrev X94 : E := .and X55 X93
abbrev X95 : E := .and X36 X94
abbrev X96 : E := .and X38 X95
abbrev X97 : E := .and X37 X96
abbrev X98 : E := .and X21 X97
abbrev X99 : E := .and X23 X98
abbrev X100 : E := .and X22 X99
abbrev X101 : E := .and X16 X100
abbrev X102 : E := .and X18 X101
abbrev X103 : E := .and X17 X102
abbrev X104 : E := .and X3 X103
abbrev X105 : E := .and X10 X104
abbrev X106 : E := .and X9 X105
abbrev X107 : E := .and X8 X106
abbrev X108 : E := .and X6 X107
abbrev X109 : E := .and X5 X108
abbrev X110 : E := .and X4 X109
abbrev X111 : E := .var 37
abbrev X112 : E := .cmp .eql (.var 38) (.fn 0 X111)
abbrev X113 : E := .not (.cmp .lss (.fn 6 (.pr X81 (.fn 8 (.pr (.int 10) (.int 4))))) (.var 38))
abbrev X114 : E := .not (.cmp .lss (.var 38) X81)
abbrev X115 : E := .var 42
abbrev X116 : E := .var 41
abbrev X117 : E := .cmp .eql X115 (.fn 0 X116)
abbrev X118 : E := .not (.cmp .lss (.fn 6 (.pr (.var 38) (.fn 8 (.pr (.int 10) (.int 2))))) X115)
abbrev X119 : E := .not (.cmp .lss X115 (.var 38))
abbrev X120 : E := .and X112 (.and X118 (.and X119 X117))
abbrev X121 : E := .and X114 X120
abbrev X122 : E := .and X113 X121
abbrev X123 : E := .and X83 X122
abbrev X124 : E := .and X85 X123
abbrev X125 : E := .and X84 X124
abbrev X126 : E := .and X78 X125
abbrev X127 : E := .and X80 X126
abbrev X128 : E := .and X79 X127
abbrev X129 : E := .and X74 X128
abbrev X130 : E := .and X76 X129
abbrev X131 : E := .and X75 X130
abbrev X132 : E := .and X54 X131
abbrev X133 : E := .and X56 X132
abbrev X134 : E := .and X55 X133
abbrev X135 : E := .and X36 X134
abbrev X136 : E := .and X38 X135
abbrev X137 : E := .and X37 X136
abbrev X138 : E := .and X21 X137
abbrev X139 : E := .and X23 X138
abbrev X140 : E := .and X22 X139
abbrev X141 : E := .and X16 X140
abbrev X142 : E := .and X18 X141
abbrev X143 : E := .and X17 X142
abbrev X144 : E := .and X3 X143
abbrev X145 : E := .and X10 X144
abbrev X146 : E := .and X9 X145
abbrev X147 : E := .and X8 X146
abbrev X148 : E := .and X6 X147
abbrev X149 : E := .and X5 X148
abbrev X150 : E := .and X4 X149
abbrev X151 : E := .var 46
abbrev X152 : E := .var 45
abbrev X153 : E := .cmp .eql X151 (.fn 0 X152)
abbrev X154 : E := .not (.cmp .lss (.fn 6 (.pr X115 (.fn 8 (.pr (.int 10) (.fn 6 (.pr (.int 1) (.fn 8 (.pr (.int 12) (.fn 9 (.pr (.fn 1 (.pr X0 (.int 22))) (.int 12))))))))))) X151)
abbrev X155 : E := .not (.cmp .lss X151 X115)
abbrev X156 : E := .and X117 (.and X154 (.and X155 X153))
abbrev X157 : E := .and X119 X156
abbrev X158 : E := .and X118 X157
abbrev X159 : E := .and X112 X158
abbrev X160 : E := .and X114 X159
abbrev X161 : E := .and X113 X160
abbrev X162 : E := .and X83 X161
abbrev X163 : E := .and X85 X162
abbrev X164 : E := .and X84 X163
abbrev X165 : E := .and X78 X164
abbrev X166 : E := .and X80 X165
abbrev X167 : E := .and X79 X166
abbrev X168 : E := .and X74 X167
abbrev X169 : E := .and X76 X168
abbrev X170 : E := .and X75 X169
abbrev X171 : E := .and X54 X170
abbrev X172 : E := .and X56 X171
abbrev X173 : E := .and X55 X172
abbrev X174 : E := .and X36 X173
abbrev X175 : E := .and X38 X174
abbrev X176 : E := .and X37 X175
abbrev X177 : E := .and X21 X176
abbrev X178 : E := .and X23 X177
abbrev X179 : E := .and X22 X178
abbrev X180 : E := .and X16 X179
abbrev X181 : E := .and X18 X180
abbrev X182 : E := .and X17 X181
abbrev X183 : E := .and X3 X182
abbrev X184 : E := .and X10 X183
abbrev X185 : E := .and X9 X184
abbrev X186 : E := .and X8 X185
abbrev X187 : E := .and X6 X186
abbrev X188 : E := .and X5 X187
abbrev X189 : E := .and X4 X188
abbrev X190 : E := .var 50
abbrev X191 : E := .var 49
abbrev X192 : E := .cmp .eql X190 (.fn 0 X191)
abbrev X193 : E := .not (.cmp .lss (.fn 6 (.pr X151 (.fn 8 (.pr (.int 10) (.fn 6 (.pr (.int 1) (.fn 8 (.pr (.int 12) (.fn 9 (.pr (.fn 1 (.pr X0 (.int 23))) (.int 12))))))))))) X190)
abbrev X194 : E := .not (.cmp .lss X190 X151)
abbrev X195 : E := .and X153 (.and X193 (.and X194 X192))
abbrev X196 : E := .and X155 X195
abbrev X197 : E := .and X154 X196
abbrev X198 : E := .and X117 X197
abbrev X199 : E := .and X119 X198
abbrev X200 : E := .and X118 X199
abbrev X201 : E := .and X112 X200
abbrev X202 : E := .and X114 X201
abbrev X203 : E := .and X113 X202
abbrev X204 : E := .and X83 X203
abbrev X205 : E := .and X85 X204
abbrev X206 : E := .and X84 X205
abbrev X207 : E := .and X78 X206
abbrev X208 : E := .and X80 X207
abbrev X209 : E := .and X79 X208
abbrev X210 : E := .and X74 X209
abbrev X211 : E := .and X76 X210
abbrev X212 : E := .and X75 X211
abbrev X213 : E := .and X54 X212
abbrev X214 : E := .and X56 X213
abbrev X215 : E := .and X55 X214
abbrev X216 : E := .and X36 X215
abbrev X217 : E := .and X38 X216
abbrev X218 : E := .and X37 X217
abbrev X219 : E := .and X21 X218
abbrev X220 : E := .and X23 X219
abbrev X221 : E := .and X22 X220
abbrev X222 : E := .and X16 X221
abbrev X223 : E := .and X18 X222
abbrev X224 : E := .and X17 X223
abbrev X225 : E := .and X3 X224
abbrev X226 : E := .and X10 X225
abbrev X227 : E := .and X9 X226
abbrev X228 : E := .and X8 X227
abbrev X229 : E := .and X6 X228
abbrev X230 : E := .and X5 X229
abbrev X231 : E := .and X4 X230
abbrev X232 : E := .var 53
abbrev X233 : E := .cmp .eql (.var 54) (.fn 0 X232)
abbrev X234 : E := .not (.cmp .lss (.fn 6 (.pr X190 (.fn 8 (.pr (.int 10) (.int 3))))) (.var 54))
abbrev X235 : E := .not (.cmp .lss (.var 54) X190)
abbrev X236 : E := .var 58
abbrev X237 : E := .var 57
abbrev X238 : E := .cmp .eql X236 (.fn 0 X237)
abbrev X239 : E := .not (.cmp .lss (.fn 6 (.pr (.var 54) (.fn 8 (.pr (.int 10) (.int 2))))) X236)
abbrev X240 : E := .not (.cmp .lss X236 (.var 54))
abbrev X241 : E := .and X233 (.and X239 (.and X240 X238))
abbrev X242 : E := .and X235 X241
abbrev X243 : E := .and X234 X242
abbrev X244 : E := .and X192 X243
abbrev X245 : E := .and X194 X244
abbrev X246 : E := .and X193 X245
abbrev X247 : E := .and X153 X246
abbrev X248 : E := .and X155 X247
abbrev X249 : E := .and X154 X248
abbrev X250 : E := .and X117 X249
abbrev X251 : E := .and X119 X250
abbrev X252 : E := .and X118 X251
abbrev X253 : E := .and X112 X252
abbrev X254 : E := .and X114 X253
abbrev X255 : E := .and X113 X254
abbrev X256 : E := .and X83 X255
abbrev X257 : E := .and X85 X256
abbrev X258 : E := .and X84 X257
abbrev X259 : E := .and X78 X258
abbrev X260 : E := .and X80 X259
abbrev X261 : E := .and X79 X260
abbrev X262 : E := .and X74 X261
abbrev X263 : E := .and X76 X262
abbrev X264 : E := .and X75 X263
abbrev X265 : E := .and X54 X264
abbrev X266 : E := .and X56 X265
abbrev X267 : E := .and X55 X266
abbrev X268 : E := .and X36 X267
abbrev X269 : E := .and X38 X268
abbrev X270 : E := .and X37 X269
abbrev X271 : E := .and X21 X270
abbrev X272 : E := .and X23 X271
abbrev X273 : E := .and X22 X272
abbrev X274 : E := .and X16 X273
abbrev X275 : E := .and X18 X274
abbrev X276 : E := .and X17 X275
abbrev X277 : E := .and X3 X276
abbrev X278 : E := .and X10 X277
abbrev X279 : E := .and X9 X278
abbrev X280 : E := .and X8 X279
abbrev X281 : E := .and X6 X280
abbrev X282 : E := .and X5 X281
abbrev X283 : E := .and X4 X282
abbrev X284 : E := .var 62
abbrev X285 : E := .var 61
abbrev X286 : E := .cmp .eql X284 (.fn 0 X285)
abbrev X287 : E := .not (.cmp .lss (.fn 6 (.pr X236 (.fn 8 (.pr (.int 10) (.fn 6 (.pr (.int 1) (.fn 8 (.pr (.int 12) (.fn 9 (.pr (.fn 1 (.pr X0 (.int 29))) (.int 12))))))))))) X284)
abbrev X288 : E := .not (.cmp .lss X284 X236)
abbrev X289 : E := .and X238 (.and X287 (.and X288 X286))
abbrev X290 : E := .and X240 X289
abbrev X291 : E := .and X239 X290
abbrev X292 : E := .and X233 X291
abbrev X293 : E := .and X235 X292
abbrev X294 : E := .and X234 X293
abbrev X295 : E := .and X192 X294
abbrev X296 : E := .and X194 X295
abbrev X297 : E := .and X193 X296
abbrev X298 : E := .and X153 X297
abbrev X299 : E := .and X155 X298
abbrev X300 : E := .and X154 X299
abbrev X301 : E := .and X117 X300
abbrev X302 : E := .and X119 X301
abbrev X303 : E := .and X118 X302
abbrev X304 : E := .and X112 X303
abbrev X305 : E := .and X114 X304
abbrev X306 : E := .and X113 X305
abbrev X307 : E := .and X83 X306
abbrev X308 : E := .and X85 X307
abbrev X309 : E := .and X84 X308
abbrev X310 : E := .and X78 X309
abbrev X311 : E := .and X80 X310
abbrev X312 : E := .and X79 X311
abbrev X313 : E := .and X74 X312
abbrev X314 : E := .and X76 X313
abbrev X315 : E := .and X75 X314
abbrev X316 : E := .and X54 X315
abbrev X317 : E := .and X56 X316
abbrev X318 : E := .and X55 X317
abbrev X319 : E := .and X36 X318
abbrev X320 : E := .and X38 X319
abbrev X321 : E := .and X37 X320
abbrev X322 : E := .and X21 X321
abbrev X323 : E := .and X23 X322
abbrev X324 : E := .and X22 X323
abbrev X325 : E := .and X16 X324
abbrev X326 : E := .and X18 X325
abbrev X327 : E := .and X17 X326
abbrev X328 : E := .and X3 X327
abbrev X329 : E := .and X10 X328
abbrev X330 : E := .and X9 X329
abbrev X331 : E := .and X8 X330
abbrev X332 : E := .and X6 X331
abbrev X333 : E := .and X5 X332
abbrev X334 : E := .and X4 X333
abbrev X335 : E := .var 66
abbrev X336 : E := .var 65
abbrev X337 : E := .cmp .eql X335 (.fn 0 X336)
abbrev X338 : E := .cmp .lss (.fn 6 (.pr X284 (.fn 8 (.pr (.int 10) (.fn 6 (.pr (.int 1) (.fn 6 (.pr (.fn 8 (.pr (.int 5) (.fn 9 (.pr (.fn 1 (.pr X0 (.int 30))) (.int 5))))) (.fn 8 (.pr (.int 2) (.fn 114 (.pr (.fn 1 (.pr X0 (.int 30))) (.fn 9 (.pr (.fn 1 (.pr X0 (.int 30))) (.int 5))))))))))))))) X335
abbrev X339 : E := .not X338
abbrev X340 : E := .cmp .lss X335 X284
abbrev X341 : E := .not X340
abbrev X342 : E := .and X341 X337
abbrev X343 : E := .and X339 X342
abbrev X344 : E := .and X286 X343
abbrev X345 : E := .and X288 X344
abbrev X346 : E := .and X287 X345
abbrev X347 : E := .and X238 X346
abbrev X348 : E := .and X240 X347
abbrev X349 : E := .and X239 X348
abbrev X350 : E := .and X233 X349
abbrev X351 : E := .and X235 X350
abbrev X352 : E := .and X234 X351
abbrev X353 : E := .and X192 X352
abbrev X354 : E := .and X194 X353
abbrev X355 : E := .and X193 X354
abbrev X356 : E := .and X153 X355
abbrev X357 : E := .and X155 X356
abbrev X358 : E := .and X154 X357
abbrev X359 : E := .and X117 X358
abbrev X360 : E := .and X119 X359
abbrev X361 : E := .and X118 X360
abbrev X362 : E := .and X112 X361
abbrev X363 : E := .and X114 X362
abbrev X364 : E := .and X113 X363
abbrev X365 : E := .and X83 X364
abbrev X366 : E := .and X85 X365
abbrev X367 : E := .and X84 X366
abbrev X368 : E := .and X78 X367
abbrev X369 : E := .and X80 X368
abbrev X370 : E := .and X79 X369
abbrev X371 : E := .and X74 X370
abbrev X372 : E := .and X76 X371
abbrev X373 : E := .and X75 X372
abbrev X374 : E := .and X54 X373
abbrev X375 : E := .and X56 X374
abbrev X376 : E := .and X55 X375
abbrev X377 : E := .and X36 X376
abbrev X378 : E := .and X38 X377
abbrev X379 : E := .and X37 X378
abbrev X380 : E := .and X21 X379
abbrev X381 : E := .and X23 X380
abbrev X382 : E := .and X22 X381
abbrev X383 : E := .and X16 X382
abbrev X384 : E := .and X18 X383
abbrev X385 : E := .and X17 X384
abbrev X386 : E := .and X3 X385
abbrev X387 : E := .and X10 X386
abbrev X388 : E := .and X9 X387
abbrev X389 : E := .and X8 X388
abbrev X390 : E := .and X6 X389
abbrev X391 : E := .and X5 X390
abbrev X392 : E := .and X4 X391
abbrev X393 : E := .var 70
abbrev X394 : E := .var 69
abbrev X395 : E := .cmp .eql X393 (.fn 0 X394)
abbrev X396 : E := .cmp .lss (.fn 6 (.pr X335 (.fn 8 (.pr (.int 10) (.fn 6 (.pr (.int 1) (.fn 6 (.pr (.fn 8 (.pr (.int 5) (.fn 9 (.pr (.fn 1 (.pr X0 (.int 31))) (.int 5))))) (.fn 8 (.pr (.int 2) (.fn 114 (.pr (.fn 1 (.pr X0 (.int 31))) (.fn 9 (.pr (.fn 1 (.pr X0 (.int 31))) (.int 5))))))))))))))) X393
abbrev X397 : E := .not X396
abbrev X398 : E := .cmp .lss X393 X335
abbrev X399 : E := .not X398
abbrev X400 : E := .and X399 X395
abbrev X401 : E := .and X397 X400
abbrev X402 : E := .and X337 X401
abbrev X403 : E := .and X341 X402
abbrev X404 : E := .and X339 X403
abbrev X405 : E := .and X286 X404
abbrev X406 : E := .and X288 X405
abbrev X407 : E := .and X287 X406
abbrev X408 : E := .and X238 X407
abbrev X409 : E := .and X240 X408
abbrev X410 : E := .and X239 X409
abbrev X411 : E := .and X233 X410
abbrev X412 : E := .and X235 X411
abbrev X413 : E := .and X234 X412
abbrev X414 : E := .and X192 X413
abbrev X415 : E := .and X194 X414
abbrev X416 : E := .and X193 X415
abbrev X417 : E := .and X153 X416
abbrev X418 : E := .and X155 X417
abbrev X419 : E := .and X154 X418
abbrev X420 : E := .and X117 X419
abbrev X421 : E := .and X119 X420
abbrev X422 : E := .and X118 X421
abbrev X423 : E := .and X112 X422
abbrev X424 : E := .and X114 X423
abbrev X425 : E := .and X113 X424
abbrev X426 : E := .and X83 X425
abbrev X427 : E := .and X85 X426
abbrev X428 : E := .and X84 X427
abbrev X429 : E := .and X78 X428
abbrev X430 : E := .and X80 X429
abbrev X431 : E := .and X79 X430
abbrev X432 : E := .and X74 X431
abbrev X433 : E := .and X76 X432
abbrev X434 : E := .and X75 X433
abbrev X435 : E := .and X54 X434
abbrev X436 : E := .and X56 X435
abbrev X437 : E := .and X55 X436
abbrev X438 : E := .and X36 X437
abbrev X439 : E := .and X38 X438
abbrev X440 : E := .and X37 X439
abbrev X441 : E := .and X21 X440
abbrev X442 : E := .and X23 X441
abbrev X443 : E := .and X22 X442
abbrev X444 : E := .and X16 X443
abbrev X445 : E := .and X18 X444
abbrev X446 : E := .and X17 X445
abbrev X447 : E := .and X3 X446
abbrev X448 : E := .and X10 X447
abbrev X449 : E := .and X9 X448
abbrev X450 : E := .and X8 X449
abbrev X451 : E := .and X6 X450
abbrev X452 : E := .and X5 X451
abbrev X453 : E := .and X4 X452
abbrev X454 : E := .var 74
abbrev X455 : E := .var 73
abbrev X456 : E := .cmp .eql X454 (.fn 0 X455)
abbrev X457 : E := .cmp .lss (.fn 6 (.pr X393 (.fn 8 (.pr (.int 10) (.int 1))))) X454
abbrev X458 : E := .not X457
abbrev X459 : E := .cmp .lss X454 X393
abbrev X460 : E := .not X459
abbrev X461 : E := .and X460 X456
abbrev X462 : E := .and X458 X461
abbrev X463 : E := .and X395 X462
abbrev X464 : E := .and X399 X463
abbrev X465 : E := .and X397 X464
abbrev X466 : E := .and X337 X465
abbrev X467 : E := .and X341 X466
abbrev X468 : E := .and X339 X467
abbrev X469 : E := .and X286 X468
abbrev X470 : E := .and X288 X469
abbrev X471 : E := .and X287 X470
abbrev X472 : E := .and X238 X471
abbrev X473 : E := .and X240 X472
abbrev X474 : E := .and X239 X473
abbrev X475 : E := .and X233 X474
abbrev X476 : E := .and X235 X475
abbrev X477 : E := .and X234 X476
abbrev X478 : E := .and X192 X477
abbrev X479 : E := .and X194 X478
abbrev X480 : E := .and X193 X479
abbrev X481 : E := .and X153 X480
abbrev X482 : E := .and X155 X481
abbrev X483 : E := .and X154 X482
abbrev X484 : E := .and X117 X483
abbrev X485 : E := .and X119 X484
abbrev X486 : E := .and X118 X485
abbrev X487 : E := .and X112 X486
abbrev X488 : E := .and X114 X487
abbrev X489 : E := .and X113 X488
abbrev X490 : E := .and X83 X489
abbrev X491 : E := .and X85 X490
abbrev X492 : E := .and X84 X491
abbrev X493 : E := .and X78 X492
abbrev X494 : E := .and X80 X493
abbrev X495 : E := .and X79 X494
abbrev X496 : E := .and X74 X495
abbrev X497 : E := .and X76 X496
abbrev X498 : E := .and X75 X497
abbrev X499 : E := .and X54 X498
abbrev X500 : E := .and X56 X499
abbrev X501 : E := .and X55 X500
abbrev X502 : E := .and X36 X501
abbrev X503 : E := .and X38 X502
abbrev X504 : E := .and X37 X503
abbrev X505 : E := .and X21 X504
abbrev X506 : E := .and X23 X505
abbrev X507 : E := .and X22 X506
abbrev X508 : E := .and X16 X507
abbrev X509 : E := .and X18 X508
abbrev X510 : E := .and X17 X509
abbrev X511 : E := .and X3 X510
abbrev X512 : E := .and X10 X511
abbrev X513 : E := .and X9 X512
abbrev X514 : E := .and X8 X513
abbrev X515 : E := .and X6 X514
abbrev X516 : E := .and X5 X515
abbrev X517 : E := .and X4 X516
abbrev X518 : E := .var 78
abbrev X519 : E := .var 77
abbrev X520 : E := .cmp .eql X518 (.fn 0 X519)
abbrev X521 : E := .cmp .lss (.fn 6 (.pr X454 (.fn 8 (.pr (.int 10) (.fn 0 (.fn 1 (.pr X0 (.int 32)))))))) X518
abbrev X522 : E := .not X521
abbrev X523 : E := .cmp .lss X518 X454
abbrev X524 : E := .not X523
abbrev X525 : E := .and X524 X520
abbrev X526 : E := .and X522 X525
abbrev X527 : E := .and X456 X526
abbrev X528 : E := .and X460 X527
abbrev X529 : E := .and X458 X528
abbrev X530 : E := .and X395 X529
abbrev X531 : E := .and X399 X530
abbrev X532 : E := .and X397 X531
abbrev X533 : E := .and X337 X532
abbrev X534 : E := .and X341 X533
abbrev X535 : E := .and X339 X534
abbrev X536 : E := .and X286 X535
abbrev X537 : E := .and X288 X536
abbrev X538 : E := .and X287 X537
abbrev X539 : E := .and X238 X538
abbrev X540 : E := .and X240 X539
abbrev X541 : E := .and X239 X540
abbrev X542 : E := .and X233 X541
abbrev X543 : E := .and X235 X542
abbrev X544 : E := .and X234 X543
abbrev X545 : E := .and X192 X544
abbrev X546 : E := .and X194 X545
abbrev X547 : E := .and X193 X546
abbrev X548 : E := .and X153 X547
abbrev X549 : E := .and X155 X548
abbrev X550 : E := .and X154 X549
abbrev X551 : E := .and X117 X550
abbrev X552 : E := .and X119 X551
abbrev X553 : E := .and X118 X552
abbrev X554 : E := .and X112 X553
abbrev X555 : E := .and X114 X554
abbrev X556 : E := .and X113 X555
abbrev X557 : E := .and X83 X556
abbrev X558 : E := .and X85 X557
abbrev X559 : E := .and X84 X558
abbrev X560 : E := .and X78 X559
abbrev X561 : E := .and X80 X560
abbrev X562 : E := .and X79 X561
abbrev X563 : E := .and X74 X562
abbrev X564 : E := .and X76 X563
abbrev X565 : E := .and X75 X564
abbrev X566 : E := .and X54 X565
abbrev X567 : E := .and X56 X566
abbrev X568 : E := .and X55 X567
abbrev X569 : E := .and X36 X568
abbrev X570 : E := .and X38 X569
abbrev X571 : E := .and X37 X570
abbrev X572 : E := .and X21 X571
abbrev X573 : E := .and X23 X572
abbrev X574 : E := .and X22 X573
abbrev X575 : E := .and X16 X574
abbrev X576 : E := .and X18 X575
abbrev X577 : E := .and X17 X576
abbrev X578 : E := .and X3 X577
abbrev X579 : E := .and X10 X578
abbrev X580 : E := .and X9 X579
abbrev X581 : E := .and X8 X580
abbrev X582 : E := .and X6 X581
abbrev X583 : E := .and X5 X582
abbrev X584 : E := .and X4 X583
abbrev X585 : E := .var 82
abbrev X586 : E := .cmp .lss (.fn 6 (.pr X518 (.fn 8 (.pr (.int 10) (.int 1))))) X585
abbrev X587 : E := .not X586
abbrev X588 : E := .cmp .eql X585 (.fn 0 (.var 81))
abbrev X589 : E := .and (.not (.cmp .lss X585 X518)) X588
abbrev X590 : E := .and X587 X589
abbrev X591 : E := .and X520 X590
abbrev X592 : E := .and X524 X591
abbrev X593 : E := .and X522 X592
abbrev X594 : E := .and X456 X593
abbrev X595 : E := .and X460 X594
abbrev X596 : E := .and X458 X595
abbrev X597 : E := .and X395 X596
abbrev X598 : E := .and X399 X597
abbrev X599 : E := .and X397 X598
abbrev X600 : E := .and X337 X599
abbrev X601 : E := .and X341 X600
abbrev X602 : E := .and X339 X601
abbrev X603 : E := .and X286 X602
abbrev X604 : E := .and X288 X603
abbrev X605 : E := .and X287 X604
abbrev X606 : E := .and X238 X605
abbrev X607 : E := .and X240 X606
abbrev X608 : E := .and X239 X607
abbrev X609 : E := .and X233 X608
abbrev X610 : E := .and X235 X609
abbrev X611 : E := .and X234 X610
abbrev X612 : E := .and X192 X611
abbrev X613 : E := .and X194 X612
abbrev X614 : E := .and X193 X613
abbrev X615 : E := .and X153 X614
abbrev X616 : E := .and X155 X615
abbrev X617 : E := .and X154 X616
abbrev X618 : E := .and X117 X617
abbrev X619 : E := .and X119 X618
abbrev X620 : E := .and X118 X619
abbrev X621 : E := .and X112 X620
abbrev X622 : E := .and X114 X621
abbrev X623 : E := .and X113 X622
abbrev X624 : E := .and X83 X623
abbrev X625 : E := .and X85 X624
abbrev X626 : E := .and X84 X625
abbrev X627 : E := .and X78 X626
abbrev X628 : E := .and X80 X627
abbrev X629 : E := .and X79 X628
abbrev X630 : E := .and X74 X629
abbrev X631 : E := .and X76 X630
abbrev X632 : E := .and X75 X631
abbrev X633 : E := .and X54 X632
abbrev X634 : E := .and X56 X633
abbrev X635 : E := .and X55 X634
abbrev X636 : E := .and X36 X635
abbrev X637 : E := .and X38 X636
abbrev X638 : E := .and X37 X637
abbrev X639 : E := .and X21 X638
abbrev X640 : E := .and X23 X639
abbrev X641 : E := .and X22 X640
abbrev X642 : E := .and X16 X641
abbrev X643 : E := .and X18 X642
abbrev X644 : E := .and X17 X643
abbrev X645 : E := .and X3 X644
abbrev X646 : E := .and X10 X645
abbrev X647 : E := .and X9 X646
abbrev X648 : E := .and X8 X647
abbrev X649 : E := .and X6 X648
abbrev X650 : E := .and X5 X649
abbrev X651 : E := .and X4 X650
abbrev X652 : E := .var 260
abbrev X653 : E := .var 257
abbrev X654 : E := .not (.cmp .lss (.fn 6 (.pr (.int 60000) (.fn 8 (.pr (.int 20) X652)))) X653)
abbrev X655 : E := .var 256
abbrev X656 : E := .cmp .eql X653 (.fn 0 X655)
abbrev X657 : E := .cmp .lss X652 (.int 0)
abbrev X658 : E := .not X657
abbrev X659 : E := .cmp .lss X652 (.fn 9 (.pr (.fn 1 (.pr X0 (.int 33))) (.int 2)))
abbrev X660 : E := .and X658 (.and X4 X659)
abbrev X661 : E := .cmp .lss (.fn 9 (.pr (.fn 1 (.pr X0 (.int 33))) (.int 2))) X652
abbrev X662 : E := .not X661
abbrev X663 : E := .not X659
abbrev X664 : E := .pr (.var 259) (.pr X0 (.pr (.int 33) X652))
abbrev X665 : E := .pr X655 X664
abbrev X666 : E := .fn 108 X665
abbrev X667 : E := .var 261
abbrev X668 : E := .ar .add .i64 X652 (.int 1)
abbrev X669 : E := .var 262
abbrev X670 : E := .cmp .eql X669 (.fn 0 X667)
abbrev X671 : E := .cmp .lss X653 (.int 1)
abbrev X672 : E := .not X671
abbrev X673 : E := .cmp .lss (.fn 6 (.pr X653 (.fn 8 (.pr (.int 10) (.int 8))))) X669
abbrev X674 : E := .not X673
abbrev X675 : E := .cmp .lss X669 X653
abbrev X676 : E := .not X675
abbrev X677 : E := .and X676 X670
abbrev X678 : E := .and X674 X677
abbrev X679 : E := .and X663 X678
abbrev X680 : E := .and X4 X679
abbrev X681 : E := .and X662 X680
abbrev X682 : E := .and X656 X681
abbrev X683 : E := .and X672 X682
abbrev X684 : E := .and X654 X683
abbrev X685 : E := .cmp .lss (.fn 6 (.pr X653 (.fn 8 (.pr (.int 10) (.int 2))))) X669
abbrev X686 : E := .not X685
abbrev X687 : E := .and X686 X677
abbrev X688 : E := .and X659 X687
abbrev X689 : E := .and X4 X688
abbrev X690 : E := .and X658 X689
abbrev X691 : E := .and X656 X690
abbrev X692 : E := .var 266
abbrev X693 : E := .cmp .lss (.fn 6 (.pr X669 (.fn 8 (.pr (.int 10) (.int 1))))) X692
abbrev X694 : E := .not X693
abbrev X695 : E := .cmp .eql X692 (.fn 0 (.var 265))
abbrev X696 : E := .and (.not (.cmp .lss X692 X669)) X695
abbrev X697 : E := .and X694 X696
abbrev X698 : E := .and X670 X697
abbrev X699 : E := .and X676 X698
abbrev X700 : E := .and X674 X699
abbrev X701 : E := .and X663 X700
abbrev X702 : E := .and X4 X701
abbrev X703 : E := .and X662 X702
abbrev X704 : E := .and X656 X703
abbrev X705 : E := .and X672 X704
abbrev X706 : E := .and X654 X705
abbrev X707 : E := .var 324
abbrev X708 : E := .var 321
abbrev X709 : E := .cmp .lss (.fn 6 (.pr (.int 70000) (.fn 8 (.pr (.int 30) X707)))) X708
abbrev X710 : E := .not X709
abbrev X711 : E := .var 320
abbrev X712 : E := .cmp .eql X708 (.fn 0 X711)
abbrev X713 : E := .cmp .lss X707 (.int 0)
abbrev X714 : E := .not X713
abbrev X715 : E := .cmp .lss X707 (.fn 9 (.pr (.fn 1 (.pr X0 (.int 42))) (.int 3)))
abbrev X716 : E := .and X714 (.and X4 X715)
abbrev X717 : E := .cmp .lss (.fn 9 (.pr (.fn 1 (.pr X0 (.int 42))) (.int 3))) X707
abbrev X718 : E := .not X717
abbrev X719 : E := .pr (.var 323) (.pr X0 (.pr (.int 42) X707))
abbrev X720 : E := .pr X711 X719
abbrev X721 : E := .fn 108 X720
abbrev X722 : E := .ar .add .i64 X707 (.int 1)
abbrev X723 : E := .var 326
abbrev X724 : E := .cmp .lss (.fn 6 (.pr X708 (.fn 8 (.pr (.int 10) (.int 3))))) X723
abbrev X725 : E := .not X724
abbrev X726 : E := .cmp .eql X723 (.fn 0 (.var 325))
abbrev X727 : E := .and (.not (.cmp .lss X723 X708)) X726
abbrev X728 : E := .and X725 X727
abbrev X729 : E := .and X715 X728
abbrev X730 : E := .and X4 X729
abbrev X731 : E := .and X714 X730
abbrev X732 : E := .and X712 X731
namespace p8
def f0 : E := (.imp X1 (.fn 118 (.pr (.int 0) (.fn 23 (.pr (.fn 1 (.pr X0 (.int 0))) (.fn 10 (.int 0)))))))
theorem fact0 (ρ : Env) : E.B ρ f0 = true := by
  unfold f0
  rw [sm_B_imp]
  intro p0
  exact (ty0_c (v3 p0 0 rfl rfl) ty0_nil)
def f1 : E := (.imp X1 (.fn 118 (.pr (.int 0) (.fn 23 (.pr (.fn 1 (.pr X0 (.int 1))) (.fn 10 (.int 0)))))))
theorem fact1 (ρ : Env) : E.B ρ f1 = true := by
  unfold f1
  rw [sm_B_imp]
  intro p0
  exact (ty0_c (v3 p0 1 rfl rfl) ty0_nil)
def f2 : E := (.imp X3 (.not (.cmp .lss (.var 6) (.int 0))))
theorem fact2 (ρ : Env) : E.B ρ f2 = true := by
  unfold f2
  rw [sm_B_imp]
  intro p0
  try simp only [smZ] at *
  have n2 := @fn0_nn ρ X2
  omega
def f3 : E := (.imp X14 (.not (.cmp .lss (.int 2000000) (.var 6))))
theorem fact3 (ρ : Env) : E.B ρ f3 = true := by
  unfold f3
  rw [sm_B_imp]
  simp only [sm_B_and]
  rintro ⟨p0, p1, p2, p3, p4, p5, p6⟩
  try simp only [smZ] at *
  have n2 := @fn0_nn ρ X7
  have n4 := @fn0_nn ρ X2
  omega
def f4 : E := (.imp X14 (.not (.cmp .lss (.var 6) (.int 1))))
theorem fact4 (ρ : Env) : E.B ρ f4 = true := by
  unfold f4
  rw [sm_B_imp]
  simp only [sm_B_and]
  rintro ⟨p0, p1, p2, p3, p4, p5, p6⟩
  try simp only [smZ] at *
  have n2 := @fn0_nn ρ X7
  have n4 := @fn0_nn ρ X2
  omega
def f5 : E := (.imp X1 (.fn 118 (.pr (.int 0) (.fn 23 (.pr (.fn 1 (.pr X0 (.int 2))) (.fn 23 (.pr (.fn 1 (.pr X0 (.int 3))) (.fn 23 (.pr (.fn 1 (.pr X0 (.int 4))) (.fn 23 (.pr (.fn 1 (.pr X0 (.int 5))) (.fn 10 (.int 0)))))))))))))
theorem fact5 (ρ : Env) : E.B ρ f5 = true := by
  unfold f5
  rw [sm_B_imp]
  intro p0
  exact (ty0_c (v3 p0 2 rfl rfl) (ty0_c (v3 p0 3 rfl rfl) (ty0_c (v3 p0 4 rfl rfl) (ty0_c (v3 p0 5 rfl rfl) ty0_nil))))
def f6 : E := (.imp X16 (.not (.cmp .lss (.var 10) (.int 0))))
theorem fact6 (ρ : Env) : E.B ρ f6 = true := by
  unfold f6
  rw [sm_B_imp]
  intro p0
  try simp only [smZ] at *
  have n2 := @fn0_nn ρ X15
  omega
def f7 : E := (.imp (.and X4 (.and X5 (.and X6 (.and X8 (.and X9 (.and X10 (.and X3 (.and X17 (.and X18 X16))))))))) (.not (.cmp .lss (.int 2000000) (.var 10))))
theorem fact7 (ρ : Env) : E.B ρ f7 = true := by
  unfold f7
  rw [sm_B_imp]
  simp only [sm_B_and]
  rintro ⟨p0, p1, p2, p3, p4, p5, p6, p7, p8, p9⟩
  try simp only [smZ] at *
  have n2 := @fn0_nn ρ X7
  have n4 := @fn0_nn ρ X2
  have n6 := @fn0_nn ρ X15
  omega
def f8 : E := (.imp X1 (.fn 118 (.pr (.int 0) (.fn 23 (.pr (.fn 1 (.pr X0 (.int 6))) (.fn 23 (.pr (.fn 1 (.pr X0 (.int 7))) (.fn 10 (.int 0)))))))))
theorem fact8 (ρ : Env) : E.B ρ f8 = true := by
  unfold f8
  rw [sm_B_imp]
  intro p0
  exact (ty0_c (v3 p0 6 rfl rfl) (ty0_c (v3 p0 7 rfl rfl) ty0_nil))
def f9 : E := (.imp X21 (.not (.cmp .lss X19 (.int 0))))
theorem fact9 (ρ : Env) : E.B ρ f9 = true := by
  unfold f9
  rw [sm_B_imp]
  intro p0
  try simp only [smZ] at *
  have n2 := @fn0_nn ρ X20
  omega
def f10 : E := (.imp X33 (.not (.cmp .lss (.int 500000) X19)))
theorem fact10 (ρ : Env) : E.B ρ f10 = true := by
  unfold f10
  rw [sm_B_imp]
  simp only [sm_B_and]
  rintro ⟨p0, p1, p2, p3, p4, p5, p6, p7, p8, p9, p10, p11, p12⟩
  try simp only [smZ] at *
  have n2 := @fn0_nn ρ X7
  have n4 := @fn0_nn ρ X2
  have n6 := @fn0_nn ρ X15
  have n8 := @fn0_nn ρ X20
  omega
def f11 : E := (.imp X33 (.not (.cmp .lss X19 (.int 1))))
theorem fact11 (ρ : Env) : E.B ρ f11 = true := by
  unfold f11
  rw [sm_B_imp]
  simp only [sm_B_and]
  rintro ⟨p0, p1, p2, p3, p4, p5, p6, p7, p8, p9, p10, p11, p12⟩
  try simp only [smZ] at *
  have n2 := @fn0_nn ρ X7
  have n4 := @fn0_nn ρ X2
  have n6 := @fn0_nn ρ X15
  have n8 := @fn0_nn ρ X20
  omega
def f12 : E := (.imp X1 (.fn 118 (.pr (.int 1) (.fn 1 (.pr X0 (.int 8))))))
theorem fact12 (ρ : Env) : E.B ρ f12 = true := by
  unfold f12
  rw [sm_B_imp]
  intro p0
  exact vl p0 8 rfl
def f13 : E := (.imp X4 (.not (.cmp .lss (.int 1000) (.fn 9 (.pr (.fn 1 (.pr X0 (.int 8))) (.int 12))))))
theorem fact13 (ρ : Env) : E.B ρ f13 = true := by
  unfold f13
  rw [sm_B_imp]
  intro p0
  have hr0 := @rows_nn ρ (.fn 1 (.pr X0 (.int 8))) (12)
  try simp only [smZ] at *
  omega
def f14 : E := (.imp X36 (.not (.cmp .lss X34 (.int 0))))
theorem fact14 (ρ : Env) : E.B ρ f14 = true := by
  unfold f14
  rw [sm_B_imp]
  intro p0
  try simp only [smZ] at *
  have n2 := @fn0_nn ρ X35
  omega
def f15 : E := (.imp X51 (.not (.cmp .lss (.int 500000) X34)))
theorem fact15 (ρ : Env) : E.B ρ f15 = true := by
  unfold f15
  rw [sm_B_imp]
  simp only [sm_B_and]
  rintro ⟨p0, p1, p2, p3, p4, p5, p6, p7, p8, p9, p10, p11, p12, p13, p14, p15⟩
  have hr0 := @rows_nn ρ (.fn 1 (.pr X0 (.int 8))) (12)
  try simp only [smZ] at *
  have n2 := @fn0_nn ρ X7
  have n4 := @fn0_nn ρ X2
  have n6 := @fn0_nn ρ X15
  have n8 := @fn0_nn ρ X20
  have n11 := @fn0_nn ρ X35
  omega
def f16 : E := (.imp X51 (.not (.cmp .lss X34 (.int 1))))
theorem fact16 (ρ : Env) : E.B ρ f16 = true := by
  unfold f16
  rw [sm_B_imp]
  simp only [sm_B_and]
  rintro ⟨p0, p1, p2, p3, p4, p5, p6, p7, p8, p9, p10, p11, p12, p13, p14, p15⟩
  have hr0 := @rows_nn ρ (.fn 1 (.pr X0 (.int 8))) (12)
  try simp only [smZ] at *
  have n2 := @fn0_nn ρ X7
  have n4 := @fn0_nn ρ X2
  have n6 := @fn0_nn ρ X15
  have n8 := @fn0_nn ρ X20
  have n11 := @fn0_nn ρ X35
  omega
def f17 : E := (.imp X1 (.fn 118 (.pr (.int 1) (.fn 1 (.pr X0 (.int 9))))))
theorem fact17 (ρ : Env) : E.B ρ f17 = true := by
  unfold f17
  rw [sm_B_imp]
  intro p0
  exact vl p0 9 rfl
def f18 : E := (.imp X4 (.not (.cmp .lss (.int 1000) (.fn 9 (.pr (.fn 1 (.pr X0 (.int 9))) (.int 12))))))
theorem fact18 (ρ : Env) : E.B ρ f18 = true := by
  unfold f18
  rw [sm_B_imp]
  intro p0
  have hr0 := @rows_nn ρ (.fn 1 (.pr X0 (.int 9))) (12)
  try simp only [smZ] at *
  omega
def f19 : E := (.imp X54 (.not (.cmp .lss X52 (.int 0))))
theorem fact19 (ρ : Env) : E.B ρ f19 = true := by
  unfold f19
  rw [sm_B_imp]
  intro p0
  try simp only [smZ] at *
  have n2 := @fn0_nn ρ X53
  omega
def f20 : E := (.imp X72 (.not (.cmp .lss (.int 1000000) X52)))
theorem fact20 (ρ : Env) : E.B ρ f20 = true := by
  unfold f20
  rw [sm_B_imp]
  simp only [sm_B_and]
  rintro ⟨p0, p1, p2, p3, p4, p5, p6, p7, p8, p9, p10, p11, p12, p13, p14, p15, p16, p17, p18⟩
  have hr0 := @rows_nn ρ (.fn 1 (.pr X0 (.int 8))) (12)
  have hr1 := @rows_nn ρ (.fn 1 (.pr X0 (.int 9))) (12)
  try simp only [smZ] at *
  have n2 := @fn0_nn ρ X7
  have n4 := @fn0_nn ρ X2
  have n6 := @fn0_nn ρ X15
  have n8 := @fn0_nn ρ X20
  have n11 := @fn0_nn ρ X35
  have n14 := @fn0_nn ρ X53
  omega
def f21 : E := (.imp X72 (.not (.cmp .lss X52 (.int 1))))
theorem fact21 (ρ : Env) : E.B ρ f21 = true := by
  unfold f21
  rw [sm_B_imp]
  simp only [sm_B_and]
  rintro ⟨p0, p1, p2, p3, p4, p5, p6, p7, p8, p9, p10, p11, p12, p13, p14, p15, p16, p17, p18⟩
  have hr0 := @rows_nn ρ (.fn 1 (.pr X0 (.int 8))) (12)
  have hr1 := @rows_nn ρ (.fn 1 (.pr X0 (.int 9))) (12)
  try simp only [smZ] at *
  have n2 := @fn0_nn ρ X7
  have n4 := @fn0_nn ρ X2
  have n6 := @fn0_nn ρ X15
  have n8 := @fn0_nn ρ X20
  have n11 := @fn0_nn ρ X35
  have n14 := @fn0_nn ρ X53
  omega
def f22 : E := (.imp X74 (.not (.cmp .lss (.var 26) (.int 0))))
theorem fact22 (ρ : Env) : E.B ρ f22 = true := by
  unfold f22
  rw [sm_B_imp]
  intro p0
  try simp only [smZ] at *
  have n2 := @fn0_nn ρ X73
  omega
def f23 : E := (.imp (.and X4 (.and X5 (.and X6 (.and X8 (.and X9 (.and X10 (.and X3 (.and X17 (.and X18 (.and X16 (.and X22 (.and X23 (.and X21 (.and X37 (.and X38 (.and X36 (.and X55 (.and X56 (.and X54 (.and X75 (.and X76 X74))))))))))))))))))))) (.not (.cmp .lss (.int 2000000) (.var 26))))
theorem fact23 (ρ : Env) : E.B ρ f23 = true := by
  unfold f23
  rw [sm_B_imp]
  simp only [sm_B_and]
  rintro ⟨p0, p1, p2, p3, p4, p5, p6, p7, p8, p9, p10, p11, p12, p13, p14, p15, p16, p17, p18, p19, p20, p21⟩
  have hr0 := @rows_nn ρ (.fn 1 (.pr X0 (.int 8))) (12)
  have hr1 := @rows_nn ρ (.fn 1 (.pr X0 (.int 9))) (12)
  try simp only [smZ] at *
  have n2 := @fn0_nn ρ X7
  have n4 := @fn0_nn ρ X2
  have n6 := @fn0_nn ρ X15
  have n8 := @fn0_nn ρ X20
  have n11 := @fn0_nn ρ X35
  have n14 := @fn0_nn ρ X53
  have n16 := @fn0_nn ρ X73
  omega
def f24 : E := (.imp X1 (.fn 118 (.pr (.int 0) (.fn 23 (.pr (.fn 1 (.pr X0 (.int 13))) (.fn 23 (.pr (.fn 1 (.pr X0 (.int 14))) (.fn 10 (.int 0)))))))))
theorem fact24 (ρ : Env) : E.B ρ f24 = true := by
  unfold f24
  rw [sm_B_imp]
  intro p0
  exact (ty0_c (v3 p0 13 rfl rfl) (ty0_c (v3 p0 14 rfl rfl) ty0_nil))
def f25 : E := (.imp X78 (.not (.cmp .lss (.var 30) (.int 0))))
theorem fact25 (ρ : Env) : E.B ρ f25 = true := by
  unfold f25
  rw [sm_B_imp]
  intro p0
  try simp only [smZ] at *
  have n2 := @fn0_nn ρ X77
  omega
def f26 : E := (.imp (.and X4 (.and X5 (.and X6 (.and X8 (.and X9 (.and X10 (.and X3 (.and X17 (.and X18 (.and X16 (.and X22 (.and X23 (.and X21 (.and X37 (.and X38 (.and X36 (.and X55 (.and X56 (.and X54 (.and X75 (.and X76 (.and X74 (.and X79 (.and X80 X78)))))))))))))))))))))))) (.not (.cmp .lss (.int 2000000) (.var 30))))
theorem fact26 (ρ : Env) : E.B ρ f26 = true := by
  unfold f26
  rw [sm_B_imp]
  simp only [sm_B_and]
  rintro ⟨p0, p1, p2, p3, p4, p5, p6, p7, p8, p9, p10, p11, p12, p13, p14, p15, p16, p17, p18, p19, p20, p21, p22, p23, p24⟩
  have hr0 := @rows_nn ρ (.fn 1 (.pr X0 (.int 8))) (12)
  have hr1 := @rows_nn ρ (.fn 1 (.pr X0 (.int 9))) (12)
  try simp only [smZ] at *
  have n2 := @fn0_nn ρ X7
  have n4 := @fn0_nn ρ X2
  have n6 := @fn0_nn ρ X15
  have n8 := @fn0_nn ρ X20
  have n11 := @fn0_nn ρ X35
  have n14 := @fn0_nn ρ X53
  have n16 := @fn0_nn ρ X73
  have n18 := @fn0_nn ρ X77
  omega
def f27 : E := (.imp X1 (.fn 118 (.pr (.int 0) (.fn 23 (.pr (.fn 1 (.pr X0 (.int 15))) (.fn 10 (.int 0)))))))
theorem fact27 (ρ : Env) : E.B ρ f27 = true := by
  unfold f27
  rw [sm_B_imp]
  intro p0
  exact (ty0_c (v3 p0 15 rfl rfl) ty0_nil)
def f28 : E := (.imp X83 (.not (.cmp .lss X81 (.int 0))))
theorem fact28 (ρ : Env) : E.B ρ f28 = true := by
  unfold f28
  rw [sm_B_imp]
  intro p0
  try simp only [smZ] at *
  have n2 := @fn0_nn ρ X82
  omega
def f29 : E := (.imp X110 (.not (.cmp .lss (.int 2000000) X81)))
theorem fact29 (ρ : Env) : E.B ρ f29 = true := by
  unfold f29
  rw [sm_B_imp]
  simp only [sm_B_and]
  rintro ⟨p0, p1, p2, p3, p4, p5, p6, p7, p8, p9, p10, p11, p12, p13, p14, p15, p16, p17, p18, p19, p20, p21, p22, p23, p24, p25, p26, p27⟩
  have hr0 := @rows_nn ρ (.fn 1 (.pr X0 (.int 8))) (12)
  have hr1 := @rows_nn ρ (.fn 1 (.pr X0 (.int 9))) (12)
  try simp only [smZ] at *
  have n2 := @fn0_nn ρ X7
  have n4 := @fn0_nn ρ X2
  have n6 := @fn0_nn ρ X15
  have n8 := @fn0_nn ρ X20
  have n11 := @fn0_nn ρ X35
  have n14 := @fn0_nn ρ X53
  have n16 := @fn0_nn ρ X73
  have n18 := @fn0_nn ρ X77
  have n20 := @fn0_nn ρ X82
  omega
def f30 : E := (.imp X110 (.not (.cmp .lss X81 (.int 1))))
theorem fact30 (ρ : Env) : E.B ρ f30 = true := by
  unfold f30
  rw [sm_B_imp]
  simp only [sm_B_and]
  rintro ⟨p0, p1, p2, p3, p4, p5, p6, p7, p8, p9, p10, p11, p12, p13, p14, p15, p16, p17, p18, p19, p20, p21, p22, p23, p24, p25, p26, p27⟩
  have hr0 := @rows_nn ρ (.fn 1 (.pr X0 (.int 8))) (12)
  have hr1 := @rows_nn ρ (.fn 1 (.pr X0 (.int 9))) (12)
  try simp only [smZ] at *
  have n2 := @fn0_nn ρ X7
  have n4 := @fn0_nn ρ X2
  have n6 := @fn0_nn ρ X15
  have n8 := @fn0_nn ρ X20
  have n11 := @fn0_nn ρ X35
  have n14 := @fn0_nn ρ X53
  have n16 := @fn0_nn ρ X73
  have n18 := @fn0_nn ρ X77
  have n20 := @fn0_nn ρ X82
  omega
def f31 : E := (.imp X1 (.fn 118 (.pr (.int 0) (.fn 23 (.pr (.fn 1 (.pr X0 (.int 16))) (.fn 23 (.pr (.fn 1 (.pr X0 (.int 17))) (.fn 23 (.pr (.fn 1 (.pr X0 (.int 18))) (.fn 23 (.pr (.fn 1 (.pr X0 (.int 19))) (.fn 10 (.int 0)))))))))))))
theorem fact31 (ρ : Env) : E.B ρ f31 = true := by
  unfold f31
  rw [sm_B_imp]
  intro p0
  exact (ty0_c (v3 p0 16 rfl rfl) (ty0_c (v3 p0 17 rfl rfl) (ty0_c (v3 p0 18 rfl rfl) (ty0_c (v3 p0 19 rfl rfl) ty0_nil))))
def f32 : E := (.imp X112 (.not (.cmp .lss (.var 38) (.int 0))))
theorem fact32 (ρ : Env) : E.B ρ f32 = true := by
  unfold f32
  rw [sm_B_imp]
  intro p0
  try simp only [smZ] at *
  have n2 := @fn0_nn ρ X111
  omega
def f33 : E := (.imp (.and X4 (.and X5 (.and X6 (.and X8 (.and X9 (.and X10 (.and X3 (.and X17 (.and X18 (.and X16 (.and X22 (.and X23 (.and X21 (.and X37 (.and X38 (.and X36 (.and X55 (.and X56 (.and X54 (.and X75 (.and X76 (.and X74 (.and X79 (.and X80 (.and X78 (.and X84 (.and X85 (.and X83 (.and X113 (.and X114 X112)))))))))))))))))))))))))))))) (.not (.cmp .lss (.int 2000000) (.var 38))))
theorem fact33 (ρ : Env) : E.B ρ f33 = true := by
  unfold f33
  rw [sm_B_imp]
  simp only [sm_B_and]
  rintro ⟨p0, p1, p2, p3, p4, p5, p6, p7, p8, p9, p10, p11, p12, p13, p14, p15, p16, p17, p18, p19, p20, p21, p22, p23, p24, p25, p26, p27, p28, p29, p30⟩
  have hr0 := @rows_nn ρ (.fn 1 (.pr X0 (.int 8))) (12)
  have hr1 := @rows_nn ρ (.fn 1 (.pr X0 (.int 9))) (12)
  try simp only [smZ] at *
  have n2 := @fn0_nn ρ X7
  have n4 := @fn0_nn ρ X2
  have n6 := @fn0_nn ρ X15
  have n8 := @fn0_nn ρ X20
  have n11 := @fn0_nn ρ X35
  have n14 := @fn0_nn ρ X53
  have n16 := @fn0_nn ρ X73
  have n18 := @fn0_nn ρ X77
  have n20 := @fn0_nn ρ X82
  have n22 := @fn0_nn ρ X111
  omega
def f34 : E := (.imp X1 (.fn 118 (.pr (.int 0) (.fn 23 (.pr (.fn 1 (.pr X0 (.int 20))) (.fn 23 (.pr (.fn 1 (.pr X0 (.int 21))) (.fn 10 (.int 0)))))))))
theorem fact34 (ρ : Env) : E.B ρ f34 = true := by
  unfold f34
  rw [sm_B_imp]
  intro p0
  exact (ty0_c (v3 p0 20 rfl rfl) (ty0_c (v3 p0 21 rfl rfl) ty0_nil))
def f35 : E := (.imp X117 (.not (.cmp .lss X115 (.int 0))))
theorem fact35 (ρ : Env) : E.B ρ f35 = true := by
  unfold f35
  rw [sm_B_imp]
  intro p0
  try simp only [smZ] at *
  have n2 := @fn0_nn ρ X116
  omega
def f36 : E := (.imp X150 (.not (.cmp .lss (.int 500000) X115)))
theorem fact36 (ρ : Env) : E.B ρ f36 = true := by
  unfold f36
  rw [sm_B_imp]
  simp only [sm_B_and]
  rintro ⟨p0, p1, p2, p3, p4, p5, p6, p7, p8, p9, p10, p11, p12, p13, p14, p15, p16, p17, p18, p19, p20, p21, p22, p23, p24, p25, p26, p27, p28, p29, p30, p31, p32, p33⟩
  have hr0 := @rows_nn ρ (.fn 1 (.pr X0 (.int 8))) (12)
  have hr1 := @rows_nn ρ (.fn 1 (.pr X0 (.int 9))) (12)
  try simp only [smZ] at *
  have n2 := @fn0_nn ρ X7
  have n4 := @fn0_nn ρ X2
  have n6 := @fn0_nn ρ X15
  have n8 := @fn0_nn ρ X20
  have n11 := @fn0_nn ρ X35
  have n14 := @fn0_nn ρ X53
  have n16 := @fn0_nn ρ X73
  have n18 := @fn0_nn ρ X77
  have n20 := @fn0_nn ρ X82
  have n22 := @fn0_nn ρ X111
  have n24 := @fn0_nn ρ X116
  omega
def f37 : E := (.imp X150 (.not (.cmp .lss X115 (.int 1))))
theorem fact37 (ρ : Env) : E.B ρ f37 = true := by
  unfold f37
  rw [sm_B_imp]
  simp only [sm_B_and]
  rintro ⟨p0, p1, p2, p3, p4, p5, p6, p7, p8, p9, p10, p11, p12, p13, p14, p15, p16, p17, p18, p19, p20, p21, p22, p23, p24, p25, p26, p27, p28, p29, p30, p31, p32, p33⟩
  have hr0 := @rows_nn ρ (.fn 1 (.pr X0 (.int 8))) (12)
  have hr1 := @rows_nn ρ (.fn 1 (.pr X0 (.int 9))) (12)
  try simp only [smZ] at *
  have n2 := @fn0_nn ρ X7
  have n4 := @fn0_nn ρ X2
  have n6 := @fn0_nn ρ X15
  have n8 := @fn0_nn ρ X20
  have n11 := @fn0_nn ρ X35
  have n14 := @fn0_nn ρ X53
  have n16 := @fn0_nn ρ X73
  have n18 := @fn0_nn ρ X77
  have n20 := @fn0_nn ρ X82
  have n22 := @fn0_nn ρ X111
  have n24 := @fn0_nn ρ X116
  omega
def f38 : E := (.imp X1 (.fn 118 (.pr (.int 1) (.fn 1 (.pr X0 (.int 22))))))
theorem fact38 (ρ : Env) : E.B ρ f38 = true := by
  unfold f38
  rw [sm_B_imp]
  intro p0
  exact vl p0 22 rfl
def f39 : E := (.imp X4 (.not (.cmp .lss (.int 1000) (.fn 9 (.pr (.fn 1 (.pr X0 (.int 22))) (.int 12))))))
theorem fact39 (ρ : Env) : E.B ρ f39 = true := by
  unfold f39
  rw [sm_B_imp]
  intro p0
  have hr0 := @rows_nn ρ (.fn 1 (.pr X0 (.int 22))) (12)
  try simp only [smZ] at *
  omega
def f40 : E := (.imp X153 (.not (.cmp .lss X151 (.int 0))))
theorem fact40 (ρ : Env) : E.B ρ f40 = true := by
  unfold f40
  rw [sm_B_imp]
  intro p0
  try simp only [smZ] at *
  have n2 := @fn0_nn ρ X152
  omega
def f41 : E := (.imp X189 (.not (.cmp .lss (.int 500000) X151)))
theorem fact41 (ρ : Env) : E.B ρ f41 = true := by
  unfold f41
  rw [sm_B_imp]
  simp only [sm_B_and]
  rintro ⟨p0, p1, p2, p3, p4, p5, p6, p7, p8, p9, p10, p11, p12, p13, p14, p15, p16, p17, p18, p19, p20, p21, p22, p23, p24, p25, p26, p27, p28, p29, p30, p31, p32, p33, p34, p35, p36⟩
  have hr0 := @rows_nn ρ (.fn 1 (.pr X0 (.int 8))) (12)
  have hr1 := @rows_nn ρ (.fn 1 (.pr X0 (.int 9))) (12)
  have hr2 := @rows_nn ρ (.fn 1 (.pr X0 (.int 22))) (12)
  try simp only [smZ] at *
  have n2 := @fn0_nn ρ X7
  have n4 := @fn0_nn ρ X2
  have n6 := @fn0_nn ρ X15
  have n8 := @fn0_nn ρ X20
  have n11 := @fn0_nn ρ X35
  have n14 := @fn0_nn ρ X53
  have n16 := @fn0_nn ρ X73
  have n18 := @fn0_nn ρ X77
  have n20 := @fn0_nn ρ X82
  have n22 := @fn0_nn ρ X111
  have n24 := @fn0_nn ρ X116
  have n27 := @fn0_nn ρ X152
  omega
def f42 : E := (.imp X189 (.not (.cmp .lss X151 (.int 1))))
theorem fact42 (ρ : Env) : E.B ρ f42 = true := by
  unfold f42
  rw [sm_B_imp]
  simp only [sm_B_and]
  rintro ⟨p0, p1, p2, p3, p4, p5, p6, p7, p8, p9, p10, p11, p12, p13, p14, p15, p16, p17, p18, p19, p20, p21, p22, p23, p24, p25, p26, p27, p28, p29, p30, p31, p32, p33, p34, p35, p36⟩
  have hr0 := @rows_nn ρ (.fn 1 (.pr X0 (.int 8))) (12)
  have hr1 := @rows_nn ρ (.fn 1 (.pr X0 (.int 9))) (12)
  have hr2 := @rows_nn ρ (.fn 1 (.pr X0 (.int 22))) (12)
  try simp only [smZ] at *
  have n2 := @fn0_nn ρ X7
  have n4 := @fn0_nn ρ X2
  have n6 := @fn0_nn ρ X15
  have n8 := @fn0_nn ρ X20
  have n11 := @fn0_nn ρ X35
  have n14 := @fn0_nn ρ X53
  have n16 := @fn0_nn ρ X73
  have n18 := @fn0_nn ρ X77
  have n20 := @fn0_nn ρ X82
  have n22 := @fn0_nn ρ X111
  have n24 := @fn0_nn ρ X116
  have n27 := @fn0_nn ρ X152
  omega
def f43 : E := (.imp X1 (.fn 118 (.pr (.int 1) (.fn 1 (.pr X0 (.int 23))))))
theorem fact43 (ρ : Env) : E.B ρ f43 = true := by
  unfold f43
  rw [sm_B_imp]
  intro p0
  exact vl p0 23 rfl
def f44 : E := (.imp X4 (.not (.cmp .lss (.int 1000) (.fn 9 (.pr (.fn 1 (.pr X0 (.int 23))) (.int 12))))))
theorem fact44 (ρ : Env) : E.B ρ f44 = true := by
  unfold f44
  rw [sm_B_imp]
  intro p0
  have hr0 := @rows_nn ρ (.fn 1 (.pr X0 (.int 23))) (12)
  try simp only [smZ] at *
  omega
def f45 : E := (.imp X192 (.not (.cmp .lss X190 (.int 0))))
theorem fact45 (ρ : Env) : E.B ρ f45 = true := by
  unfold f45
  rw [sm_B_imp]
  intro p0
  try simp only [smZ] at *
  have n2 := @fn0_nn ρ X191
  omega
def f46 : E := (.imp X231 (.not (.cmp .lss (.int 1000000) X190)))
theorem fact46 (ρ : Env) : E.B ρ f46 = true := by
  unfold f46
  rw [sm_B_imp]
  simp only [sm_B_and]
  rintro ⟨p0, p1, p2, p3, p4, p5, p6, p7, p8, p9, p10, p11, p12, p13, p14, p15, p16, p17, p18, p19, p20, p21, p22, p23, p24, p25, p26, p27, p28, p29, p30, p31, p32, p33, p34, p35, p36, p37, p38, p39⟩
  have hr0 := @rows_nn ρ (.fn 1 (.pr X0 (.int 8))) (12)
  have hr1 := @rows_nn ρ (.fn 1 (.pr X0 (.int 9))) (12)
  have hr2 := @rows_nn ρ (.fn 1 (.pr X0 (.int 22))) (12)
  have hr3 := @rows_nn ρ (.fn 1 (.pr X0 (.int 23))) (12)
  try simp only [smZ] at *
  have n2 := @fn0_nn ρ X7
  have n4 := @fn0_nn ρ X2
  have n6 := @fn0_nn ρ X15
  have n8 := @fn0_nn ρ X20
  have n11 := @fn0_nn ρ X35
  have n14 := @fn0_nn ρ X53
  have n16 := @fn0_nn ρ X73
  have n18 := @fn0_nn ρ X77
  have n20 := @fn0_nn ρ X82
  have n22 := @fn0_nn ρ X111
  have n24 := @fn0_nn ρ X116
  have n27 := @fn0_nn ρ X152
  have n30 := @fn0_nn ρ X191
  omega
def f47 : E := (.imp X231 (.not (.cmp .lss X190 (.int 1))))
theorem fact47 (ρ : Env) : E.B ρ f47 = true := by
  unfold f47
  rw [sm_B_imp]
  simp only [sm_B_and]
  rintro ⟨p0, p1, p2, p3, p4, p5, p6, p7, p8, p9, p10, p11, p12, p13, p14, p15, p16, p17, p18, p19, p20, p21, p22, p23, p24, p25, p26, p27, p28, p29, p30, p31, p32, p33, p34, p35, p36, p37, p38, p39⟩
  have hr0 := @rows_nn ρ (.fn 1 (.pr X0 (.int 8))) (12)
  have hr1 := @rows_nn ρ (.fn 1 (.pr X0 (.int 9))) (12)
  have hr2 := @rows_nn ρ (.fn 1 (.pr X0 (.int 22))) (12)
  have hr3 := @rows_nn ρ (.fn 1 (.pr X0 (.int 23))) (12)
  try simp only [smZ] at *
  have n2 := @fn0_nn ρ X7
  have n4 := @fn0_nn ρ X2
  have n6 := @fn0_nn ρ X15
  have n8 := @fn0_nn ρ X20
  have n11 := @fn0_nn ρ X35
  have n14 := @fn0_nn ρ X53
  have n16 := @fn0_nn ρ X73
  have n18 := @fn0_nn ρ X77
  have n20 := @fn0_nn ρ X82
  have n22 := @fn0_nn ρ X111
  have n24 := @fn0_nn ρ X116
  have n27 := @fn0_nn ρ X152
  have n30 := @fn0_nn ρ X191
  omega
def f48 : E := (.imp X233 (.not (.cmp .lss (.var 54) (.int 0))))
theorem fact48 (ρ : Env) : E.B ρ f48 = true := by
  unfold f48
  rw [sm_B_imp]
  intro p0
  try simp only [smZ] at *
  have n2 := @fn0_nn ρ X232
  omega
def f49 : E := (.imp (.and X4 (.and X5 (.and X6 (.and X8 (.and X9 (.and X10 (.and X3 (.and X17 (.and X18 (.and X16 (.and X22 (.and X23 (.and X21 (.and X37 (.and X38 (.and X36 (.and X55 (.and X56 (.and X54 (.and X75 (.and X76 (.and X74 (.and X79 (.and X80 (.and X78 (.and X84 (.and X85 (.and X83 (.and X113 (.and X114 (.and X112 (.and X118 (.and X119 (.and X117 (.and X154 (.and X155 (.and X153 (.and X193 (.and X194 (.and X192 (.and X234 (.and X235 X233)))))))))))))))))))))))))))))))))))))))))) (.not (.cmp .lss (.int 2000000) (.var 54))))
theorem fact49 (ρ : Env) : E.B ρ f49 = true := by
  unfold f49
  rw [sm_B_imp]
  simp only [sm_B_and]
  rintro ⟨p0, p1, p2, p3, p4, p5, p6, p7, p8, p9, p10, p11, p12, p13, p14, p15, p16, p17, p18, p19, p20, p21, p22, p23, p24, p25, p26, p27, p28, p29, p30, p31, p32, p33, p34, p35, p36, p37, p38, p39, p40, p41, p42⟩
  have hr0 := @rows_nn ρ (.fn 1 (.pr X0 (.int 8))) (12)
  have hr1 := @rows_nn ρ (.fn 1 (.pr X0 (.int 9))) (12)
  have hr2 := @rows_nn ρ (.fn 1 (.pr X0 (.int 22))) (12)
  have hr3 := @rows_nn ρ (.fn 1 (.pr X0 (.int 23))) (12)
  try simp only [smZ] at *
  have n2 := @fn0_nn ρ X7
  have n4 := @fn0_nn ρ X2
  have n6 := @fn0_nn ρ X15
  have n8 := @fn0_nn ρ X20
  have n11 := @fn0_nn ρ X35
  have n14 := @fn0_nn ρ X53
  have n16 := @fn0_nn ρ X73
  have n18 := @fn0_nn ρ X77
  have n20 := @fn0_nn ρ X82
  have n22 := @fn0_nn ρ X111
  have n24 := @fn0_nn ρ X116
  have n27 := @fn0_nn ρ X152
  have n30 := @fn0_nn ρ X191
  have n32 := @fn0_nn ρ X232
  omega
def f50 : E := (.imp X1 (.fn 118 (.pr (.int 0) (.fn 23 (.pr (.fn 1 (.pr X0 (.int 27))) (.fn 23 (.pr (.fn 1 (.pr X0 (.int 28))) (.fn 10 (.int 0)))))))))
theorem fact50 (ρ : Env) : E.B ρ f50 = true := by
  unfold f50
  rw [sm_B_imp]
  intro p0
  exact (ty0_c (v3 p0 27 rfl rfl) (ty0_c (v3 p0 28 rfl rfl) ty0_nil))
def f51 : E := (.imp X238 (.not (.cmp .lss X236 (.int 0))))
theorem fact51 (ρ : Env) : E.B ρ f51 = true := by
  unfold f51
  rw [sm_B_imp]
  intro p0
  try simp only [smZ] at *
  have n2 := @fn0_nn ρ X237
  omega
def f52 : E := (.imp X283 (.not (.cmp .lss (.int 500000) X236)))
theorem fact52 (ρ : Env) : E.B ρ f52 = true := by
  unfold f52
  rw [sm_B_imp]
  simp only [sm_B_and]
  rintro ⟨p0, p1, p2, p3, p4, p5, p6, p7, p8, p9, p10, p11, p12, p13, p14, p15, p16, p17, p18, p19, p20, p21, p22, p23, p24, p25, p26, p27, p28, p29, p30, p31, p32, p33, p34, p35, p36, p37, p38, p39, p40, p41, p42, p43, p44, p45⟩
  have hr0 := @rows_nn ρ (.fn 1 (.pr X0 (.int 8))) (12)
  have hr1 := @rows_nn ρ (.fn 1 (.pr X0 (.int 9))) (12)
  have hr2 := @rows_nn ρ (.fn 1 (.pr X0 (.int 22))) (12)
  have hr3 := @rows_nn ρ (.fn 1 (.pr X0 (.int 23))) (12)
  try simp only [smZ] at *
  have n2 := @fn0_nn ρ X7
  have n4 := @fn0_nn ρ X2
  have n6 := @fn0_nn ρ X15
  have n8 := @fn0_nn ρ X20
  have n11 := @fn0_nn ρ X35
  have n14 := @fn0_nn ρ X53
  have n16 := @fn0_nn ρ X73
  have n18 := @fn0_nn ρ X77
  have n20 := @fn0_nn ρ X82
  have n22 := @fn0_nn ρ X111
  have n24 := @fn0_nn ρ X116
  have n27 := @fn0_nn ρ X152
  have n30 := @fn0_nn ρ X191
  have n32 := @fn0_nn ρ X232
  have n34 := @fn0_nn ρ X237
  omega
def f53 : E := (.imp X283 (.not (.cmp .lss X236 (.int 1))))
theorem fact53 (ρ : Env) : E.B ρ f53 = true := by
  unfold f53
  rw [sm_B_imp]
  simp only [sm_B_and]
  rintro ⟨p0, p1, p2, p3, p4, p5, p6, p7, p8, p9, p10, p11, p12, p13, p14, p15, p16, p17, p18, p19, p20, p21, p22, p23, p24, p25, p26, p27, p28, p29, p30, p31, p32, p33, p34, p35, p36, p37, p38, p39, p40, p41, p42, p43, p44, p45⟩
  have hr0 := @rows_nn ρ (.fn 1 (.pr X0 (.int 8))) (12)
  have hr1 := @rows_nn ρ (.fn 1 (.pr X0 (.int 9))) (12)
  have hr2 := @rows_nn ρ (.fn 1 (.pr X0 (.int 22))) (12)
  have hr3 := @rows_nn ρ (.fn 1 (.pr X0 (.int 23))) (12)
  try simp only [smZ] at *
  have n2 := @fn0_nn ρ X7
  have n4 := @fn0_nn ρ X2
  have n6 := @fn0_nn ρ X15
  have n8 := @fn0_nn ρ X20
  have n11 := @fn0_nn ρ X35
  have n14 := @fn0_nn ρ X53
  have n16 := @fn0_nn ρ X73
  have n18 := @fn0_nn ρ X77
  have n20 := @fn0_nn ρ X82
  have n22 := @fn0_nn ρ X111
  have n24 := @fn0_nn ρ X116
  have n27 := @fn0_nn ρ X152
  have n30 := @fn0_nn ρ X191
  have n32 := @fn0_nn ρ X232
  have n34 := @fn0_nn ρ X237
  omega
def f54 : E := (.imp X1 (.fn 118 (.pr (.int 1) (.fn 1 (.pr X0 (.int 29))))))
theorem fact54 (ρ : Env) : E.B ρ f54 = true := by
  unfold f54
  rw [sm_B_imp]
  intro p0
  exact vl p0 29 rfl
def f55 : E := (.imp X4 (.not (.cmp .lss (.int 1000) (.fn 9 (.pr (.fn 1 (.pr X0 (.int 29))) (.int 12))))))
theorem fact55 (ρ : Env) : E.B ρ f55 = true := by
  unfold f55
  rw [sm_B_imp]
  intro p0
  have hr0 := @rows_nn ρ (.fn 1 (.pr X0 (.int 29))) (12)
  try simp only [smZ] at *
  omega
def f56 : E := (.imp X286 (.not (.cmp .lss X284 (.int 0))))
theorem fact56 (ρ : Env) : E.B ρ f56 = true := by
  unfold f56
  rw [sm_B_imp]
  intro p0
  try simp only [smZ] at *
  have n2 := @fn0_nn ρ X285
  omega
def f57 : E := (.imp X334 (.not (.cmp .lss (.int 500000) X284)))
theorem fact57 (ρ : Env) : E.B ρ f57 = true := by
  unfold f57
  rw [sm_B_imp]
  simp only [sm_B_and]
  rintro ⟨p0, p1, p2, p3, p4, p5, p6, p7, p8, p9, p10, p11, p12, p13, p14, p15, p16, p17, p18, p19, p20, p21, p22, p23, p24, p25, p26, p27, p28, p29, p30, p31, p32, p33, p34, p35, p36, p37, p38, p39, p40, p41, p42, p43, p44, p45, p46, p47, p48⟩
  have hr0 := @rows_nn ρ (.fn 1 (.pr X0 (.int 8))) (12)
  have hr1 := @rows_nn ρ (.fn 1 (.pr X0 (.int 9))) (12)
  have hr2 := @rows_nn ρ (.fn 1 (.pr X0 (.int 22))) (12)
  have hr3 := @rows_nn ρ (.fn 1 (.pr X0 (.int 23))) (12)
  have hr4 := @rows_nn ρ (.fn 1 (.pr X0 (.int 29))) (12)
  try simp only [smZ] at *
  have n2 := @fn0_nn ρ X7
  have n4 := @fn0_nn ρ X2
  have n6 := @fn0_nn ρ X15
  have n8 := @fn0_nn ρ X20
  have n11 := @fn0_nn ρ X35
  have n14 := @fn0_nn ρ X53
  have n16 := @fn0_nn ρ X73
  have n18 := @fn0_nn ρ X77
  have n20 := @fn0_nn ρ X82
  have n22 := @fn0_nn ρ X111
  have n24 := @fn0_nn ρ X116
  have n27 := @fn0_nn ρ X152
  have n30 := @fn0_nn ρ X191
  have n32 := @fn0_nn ρ X232
  have n34 := @fn0_nn ρ X237
  have n37 := @fn0_nn ρ X285
  omega
def f58 : E := (.imp X334 (.not (.cmp .lss X284 (.int 1))))
theorem fact58 (ρ : Env) : E.B ρ f58 = true := by
  unfold f58
  rw [sm_B_imp]
  simp only [sm_B_and]
  rintro ⟨p0, p1, p2, p3, p4, p5, p6, p7, p8, p9, p10, p11, p12, p13, p14, p15, p16, p17, p18, p19, p20, p21, p22, p23, p24, p25, p26, p27, p28, p29, p30, p31, p32, p33, p34, p35, p36, p37, p38, p39, p40, p41, p42, p43, p44, p45, p46, p47, p48⟩
  have hr0 := @rows_nn ρ (.fn 1 (.pr X0 (.int 8))) (12)
  have hr1 := @rows_nn ρ (.fn 1 (.pr X0 (.int 9))) (12)
  have hr2 := @rows_nn ρ (.fn 1 (.pr X0 (.int 22))) (12)
  have hr3 := @rows_nn ρ (.fn 1 (.pr X0 (.int 23))) (12)
  have hr4 := @rows_nn ρ (.fn 1 (.pr X0 (.int 29))) (12)
  try simp only [smZ] at *
  have n2 := @fn0_nn ρ X7
  have n4 := @fn0_nn ρ X2
  have n6 := @fn0_nn ρ X15
  have n8 := @fn0_nn ρ X20
  have n11 := @fn0_nn ρ X35
  have n14 := @fn0_nn ρ X53
  have n16 := @fn0_nn ρ X73
  have n18 := @fn0_nn ρ X77
  have n20 := @fn0_nn ρ X82
  have n22 := @fn0_nn ρ X111
  have n24 := @fn0_nn ρ X116
  have n27 := @fn0_nn ρ X152
  have n30 := @fn0_nn ρ X191
  have n32 := @fn0_nn ρ X232
  have n34 := @fn0_nn ρ X237
  have n37 := @fn0_nn ρ X285
  omega
def f59 : E := (.imp X1 (.fn 118 (.pr (.int 2) (.fn 1 (.pr X0 (.int 30))))))
theorem fact59 (ρ : Env) : E.B ρ f59 = true := by
  unfold f59
  rw [sm_B_imp]
  intro p0
  exact vl p0 30 rfl
def f60 : E := (.imp X4 (.not (.cmp .lss (.int 1000) (.fn 9 (.pr (.fn 1 (.pr X0 (.int 30))) (.int 5))))))
theorem fact60 (ρ : Env) : E.B ρ f60 = true := by
  unfold f60
  rw [sm_B_imp]
  intro p0
  have hr0 := @rows_nn ρ (.fn 1 (.pr X0 (.int 30))) (5)
  try simp only [smZ] at *
  omega
def f61 : E := (.imp X4 (.not (.cmp .lss (.int 5000) (.fn 114 (.pr (.fn 1 (.pr X0 (.int 30))) (.fn 9 (.pr (.fn 1 (.pr X0 (.int 30))) (.int 5))))))))
theorem fact61 (ρ : Env) : E.B ρ f61 = true := by
  unfold f61
  rw [sm_B_imp]
  intro p0
  have hr0 := @rows_nn ρ (.fn 1 (.pr X0 (.int 30))) (5)
  have ht0 := @tg_nn ρ (.fn 1 (.pr X0 (.int 30))) (.fn 9 (.pr (.fn 1 (.pr X0 (.int 30))) (.int 5)))
  try simp only [smZ] at *
  omega
def f62 : E := (.imp X337 (.not (.cmp .lss X335 (.int 0))))
theorem fact62 (ρ : Env) : E.B ρ f62 = true := by
  unfold f62
  rw [sm_B_imp]
  intro p0
  try simp only [smZ] at *
  have n2 := @fn0_nn ρ X336
  omega
def f63 : E := (.imp X392 (.not (.cmp .lss (.int 500000) X335)))
theorem fact63 (ρ : Env) : E.B ρ f63 = true := by
  unfold f63
  rw [sm_B_imp]
  simp only [sm_B_and]
  rintro ⟨p0, p1, p2, p3, p4, p5, p6, p7, p8, p9, p10, p11, p12, p13, p14, p15, p16, p17, p18, p19, p20, p21, p22, p23, p24, p25, p26, p27, p28, p29, p30, p31, p32, p33, p34, p35, p36, p37, p38, p39, p40, p41, p42, p43, p44, p45, p46, p47, p48, p49, p50, p51⟩
  have hr0 := @rows_nn ρ (.fn 1 (.pr X0 (.int 8))) (12)
  have hr1 := @rows_nn ρ (.fn 1 (.pr X0 (.int 9))) (12)
  have hr2 := @rows_nn ρ (.fn 1 (.pr X0 (.int 22))) (12)
  have hr3 := @rows_nn ρ (.fn 1 (.pr X0 (.int 23))) (12)
  have hr4 := @rows_nn ρ (.fn 1 (.pr X0 (.int 29))) (12)
  have hr5 := @rows_nn ρ (.fn 1 (.pr X0 (.int 30))) (5)
  have ht0 := @tg_nn ρ (.fn 1 (.pr X0 (.int 30))) (.fn 9 (.pr (.fn 1 (.pr X0 (.int 30))) (.int 5)))
  try simp only [smZ] at *
  have n2 := @fn0_nn ρ X7
  have n4 := @fn0_nn ρ X2
  have n6 := @fn0_nn ρ X15
  have n8 := @fn0_nn ρ X20
  have n11 := @fn0_nn ρ X35
  have n14 := @fn0_nn ρ X53
  have n16 := @fn0_nn ρ X73
  have n18 := @fn0_nn ρ X77
  have n20 := @fn0_nn ρ X82
  have n22 := @fn0_nn ρ X111
  have n24 := @fn0_nn ρ X116
  have n27 := @fn0_nn ρ X152
  have n30 := @fn0_nn ρ X191
  have n32 := @fn0_nn ρ X232
  have n34 := @fn0_nn ρ X237
  have n37 := @fn0_nn ρ X285
  have n41 := @fn0_nn ρ X336
  omega
def f64 : E := (.imp X392 (.not (.cmp .lss X335 (.int 1))))
theorem fact64 (ρ : Env) : E.B ρ f64 = true := by
  unfold f64
  rw [sm_B_imp]
  simp only [sm_B_and]
  rintro ⟨p0, p1, p2, p3, p4, p5, p6, p7, p8, p9, p10, p11, p12, p13, p14, p15, p16, p17, p18, p19, p20, p21, p22, p23, p24, p25, p26, p27, p28, p29, p30, p31, p32, p33, p34, p35, p36, p37, p38, p39, p40, p41, p42, p43, p44, p45, p46, p47, p48, p49, p50, p51⟩
  have hr0 := @rows_nn ρ (.fn 1 (.pr X0 (.int 8))) (12)
  have hr1 := @rows_nn ρ (.fn 1 (.pr X0 (.int 9))) (12)
  have hr2 := @rows_nn ρ (.fn 1 (.pr X0 (.int 22))) (12)
  have hr3 := @rows_nn ρ (.fn 1 (.pr X0 (.int 23))) (12)
  have hr4 := @rows_nn ρ (.fn 1 (.pr X0 (.int 29))) (12)
  have hr5 := @rows_nn ρ (.fn 1 (.pr X0 (.int 30))) (5)
  have ht0 := @tg_nn ρ (.fn 1 (.pr X0 (.int 30))) (.fn 9 (.pr (.fn 1 (.pr X0 (.int 30))) (.int 5)))
  try simp only [smZ] at *
  have n2 := @fn0_nn ρ X7
  have n4 := @fn0_nn ρ X2
  have n6 := @fn0_nn ρ X15
  have n8 := @fn0_nn ρ X20
  have n11 := @fn0_nn ρ X35
  have n14 := @fn0_nn ρ X53
  have n16 := @fn0_nn ρ X73
  have n18 := @fn0_nn ρ X77
  have n20 := @fn0_nn ρ X82
  have n22 := @fn0_nn ρ X111
  have n24 := @fn0_nn ρ X116
  have n27 := @fn0_nn ρ X152
  have n30 := @fn0_nn ρ X191
  have n32 := @fn0_nn ρ X232
  have n34 := @fn0_nn ρ X237
  have n37 := @fn0_nn ρ X285
  have n41 := @fn0_nn ρ X336
  omega
def f65 : E := (.imp X1 (.fn 118 (.pr (.int 2) (.fn 1 (.pr X0 (.int 31))))))
theorem fact65 (ρ : Env) : E.B ρ f65 = true := by
  unfold f65
  rw [sm_B_imp]
  intro p0
  exact vl p0 31 rfl
def f66 : E := (.imp X4 (.not (.cmp .lss (.int 1000) (.fn 9 (.pr (.fn 1 (.pr X0 (.int 31))) (.int 5))))))
theorem fact66 (ρ : Env) : E.B ρ f66 = true := by
  unfold f66
  rw [sm_B_imp]
  intro p0
  have hr0 := @rows_nn ρ (.fn 1 (.pr X0 (.int 31))) (5)
  try simp only [smZ] at *
  omega
def f67 : E := (.imp X4 (.not (.cmp .lss (.int 5000) (.fn 114 (.pr (.fn 1 (.pr X0 (.int 31))) (.fn 9 (.pr (.fn 1 (.pr X0 (.int 31))) (.int 5))))))))
theorem fact67 (ρ : Env) : E.B ρ f67 = true := by
  unfold f67
  rw [sm_B_imp]
  intro p0
  have hr0 := @rows_nn ρ (.fn 1 (.pr X0 (.int 31))) (5)
  have ht0 := @tg_nn ρ (.fn 1 (.pr X0 (.int 31))) (.fn 9 (.pr (.fn 1 (.pr X0 (.int 31))) (.int 5)))
  try simp only [smZ] at *
  omega
def f68 : E := (.imp X395 (.not (.cmp .lss X393 (.int 0))))
theorem fact68 (ρ : Env) : E.B ρ f68 = true := by
  unfold f68
  rw [sm_B_imp]
  intro p0
  try simp only [smZ] at *
  have n2 := @fn0_nn ρ X394
  omega
def f69 : E := (.imp X453 (.not (.cmp .lss (.int 1000000) X393)))
theorem fact69 (ρ : Env) : E.B ρ f69 = true := by
  unfold f69
  rw [sm_B_imp]
  simp only [sm_B_and]
  rintro ⟨p0, p1, p2, p3, p4, p5, p6, p7, p8, p9, p10, p11, p12, p13, p14, p15, p16, p17, p18, p19, p20, p21, p22, p23, p24, p25, p26, p27, p28, p29, p30, p31, p32, p33, p34, p35, p36, p37, p38, p39, p40, p41, p42, p43, p44, p45, p46, p47, p48, p49, p50, p51, p52, p53, p54⟩
  have hr0 := @rows_nn ρ (.fn 1 (.pr X0 (.int 8))) (12)
  have hr1 := @rows_nn ρ (.fn 1 (.pr X0 (.int 9))) (12)
  have hr2 := @rows_nn ρ (.fn 1 (.pr X0 (.int 22))) (12)
  have hr3 := @rows_nn ρ (.fn 1 (.pr X0 (.int 23))) (12)
  have hr4 := @rows_nn ρ (.fn 1 (.pr X0 (.int 29))) (12)
  have hr5 := @rows_nn ρ (.fn 1 (.pr X0 (.int 30))) (5)
  have hr6 := @rows_nn ρ (.fn 1 (.pr X0 (.int 31))) (5)
  have ht0 := @tg_nn ρ (.fn 1 (.pr X0 (.int 30))) (.fn 9 (.pr (.fn 1 (.pr X0 (.int 30))) (.int 5)))
  have ht1 := @tg_nn ρ (.fn 1 (.pr X0 (.int 31))) (.fn 9 (.pr (.fn 1 (.pr X0 (.int 31))) (.int 5)))
  try simp only [smZ] at *
  have n2 := @fn0_nn ρ X7
  have n4 := @fn0_nn ρ X2
  have n6 := @fn0_nn ρ X15
  have n8 := @fn0_nn ρ X20
  have n11 := @fn0_nn ρ X35
  have n14 := @fn0_nn ρ X53
  have n16 := @fn0_nn ρ X73
  have n18 := @fn0_nn ρ X77
  have n20 := @fn0_nn ρ X82
  have n22 := @fn0_nn ρ X111
  have n24 := @fn0_nn ρ X116
  have n27 := @fn0_nn ρ X152
  have n30 := @fn0_nn ρ X191
  have n32 := @fn0_nn ρ X232
  have n34 := @fn0_nn ρ X237
  have n37 := @fn0_nn ρ X285
  have n41 := @fn0_nn ρ X336
  have n45 := @fn0_nn ρ X394
  omega
def f70 : E := (.imp X453 (.not (.cmp .lss X393 (.int 1))))
theorem fact70 (ρ : Env) : E.B ρ f70 = true := by
  unfold f70
  rw [sm_B_imp]
  simp only [sm_B_and]
  rintro ⟨p0, p1, p2, p3, p4, p5, p6, p7, p8, p9, p10, p11, p12, p13, p14, p15, p16, p17, p18, p19, p20, p21, p22, p23, p24, p25, p26, p27, p28, p29, p30, p31, p32, p33, p34, p35, p36, p37, p38, p39, p40, p41, p42, p43, p44, p45, p46, p47, p48, p49, p50, p51, p52, p53, p54⟩
  have hr0 := @rows_nn ρ (.fn 1 (.pr X0 (.int 8))) (12)
  have hr1 := @rows_nn ρ (.fn 1 (.pr X0 (.int 9))) (12)
  have hr2 := @rows_nn ρ (.fn 1 (.pr X0 (.int 22))) (12)
  have hr3 := @rows_nn ρ (.fn 1 (.pr X0 (.int 23))) (12)
  have hr4 := @rows_nn ρ (.fn 1 (.pr X0 (.int 29))) (12)
  have hr5 := @rows_nn ρ (.fn 1 (.pr X0 (.int 30))) (5)
  have hr6 := @rows_nn ρ (.fn 1 (.pr X0 (.int 31))) (5)
  have ht0 := @tg_nn ρ (.fn 1 (.pr X0 (.int 30))) (.fn 9 (.pr (.fn 1 (.pr X0 (.int 30))) (.int 5)))
  have ht1 := @tg_nn ρ (.fn 1 (.pr X0 (.int 31))) (.fn 9 (.pr (.fn 1 (.pr X0 (.int 31))) (.int 5)))
  try simp only [smZ] at *
  have n2 := @fn0_nn ρ X7
  have n4 := @fn0_nn ρ X2
  have n6 := @fn0_nn ρ X15
  have n8 := @fn0_nn ρ X20
  have n11 := @fn0_nn ρ X35
  have n14 := @fn0_nn ρ X53
  have n16 := @fn0_nn ρ X73
  have n18 := @fn0_nn ρ X77
  have n20 := @fn0_nn ρ X82
  have n22 := @fn0_nn ρ X111
  have n24 := @fn0_nn ρ X116
  have n27 := @fn0_nn ρ X152
  have n30 := @fn0_nn ρ X191
  have n32 := @fn0_nn ρ X232
  have n34 := @fn0_nn ρ X237
  have n37 := @fn0_nn ρ X285
  have n41 := @fn0_nn ρ X336
  have n45 := @fn0_nn ρ X394
  omega
def f71 : E := (.imp X4 (.fn 118 (.pr (.int 0) (.fn 23 (.pr (.fn 0 (.fn 1 (.pr X0 (.int 32)))) (.fn 10 (.int 0)))))))
theorem fact71 (ρ : Env) : E.B ρ f71 = true := by
  unfold f71
  rw [sm_B_imp]
  intro p0
  obtain ⟨g0, g1⟩ : (-9223372036854775808) ≤ E.I ρ (.fn 0 (.fn 1 (.pr X0 (.int 32)))) ∧ E.I ρ (.fn 0 (.fn 1 (.pr X0 (.int 32)))) ≤ (9223372036854775807) := by
    try simp only [smZ] at *
    have n1 := @fn0_nn ρ (.fn 1 (.pr X0 (.int 32)))
    omega
  exact ty0_I ⟨_, rfl⟩ g0 g1 ty0_nil
def f72 : E := (.imp X456 (.not (.cmp .lss X454 (.int 0))))
theorem fact72 (ρ : Env) : E.B ρ f72 = true := by
  unfold f72
  rw [sm_B_imp]
  intro p0
  try simp only [smZ] at *
  have n2 := @fn0_nn ρ X455
  omega
def f73 : E := (.imp X517 (.not (.cmp .lss (.int 2000000) X454)))
theorem fact73 (ρ : Env) : E.B ρ f73 = true := by
  unfold f73
  rw [sm_B_imp]
  simp only [sm_B_and]
  rintro ⟨p0, p1, p2, p3, p4, p5, p6, p7, p8, p9, p10, p11, p12, p13, p14, p15, p16, p17, p18, p19, p20, p21, p22, p23, p24, p25, p26, p27, p28, p29, p30, p31, p32, p33, p34, p35, p36, p37, p38, p39, p40, p41, p42, p43, p44, p45, p46, p47, p48, p49, p50, p51, p52, p53, p54, p55, p56, p57⟩
  have hr0 := @rows_nn ρ (.fn 1 (.pr X0 (.int 8))) (12)
  have hr1 := @rows_nn ρ (.fn 1 (.pr X0 (.int 9))) (12)
  have hr2 := @rows_nn ρ (.fn 1 (.pr X0 (.int 22))) (12)
  have hr3 := @rows_nn ρ (.fn 1 (.pr X0 (.int 23))) (12)
  have hr4 := @rows_nn ρ (.fn 1 (.pr X0 (.int 29))) (12)
  have hr5 := @rows_nn ρ (.fn 1 (.pr X0 (.int 30))) (5)
  have hr6 := @rows_nn ρ (.fn 1 (.pr X0 (.int 31))) (5)
  have ht0 := @tg_nn ρ (.fn 1 (.pr X0 (.int 30))) (.fn 9 (.pr (.fn 1 (.pr X0 (.int 30))) (.int 5)))
  have ht1 := @tg_nn ρ (.fn 1 (.pr X0 (.int 31))) (.fn 9 (.pr (.fn 1 (.pr X0 (.int 31))) (.int 5)))
  try simp only [smZ] at *
  have n2 := @fn0_nn ρ X7
  have n4 := @fn0_nn ρ X2
  have n6 := @fn0_nn ρ X15
  have n8 := @fn0_nn ρ X20
  have n11 := @fn0_nn ρ X35
  have n14 := @fn0_nn ρ X53
  have n16 := @fn0_nn ρ X73
  have n18 := @fn0_nn ρ X77
  have n20 := @fn0_nn ρ X82
  have n22 := @fn0_nn ρ X111
  have n24 := @fn0_nn ρ X116
  have n27 := @fn0_nn ρ X152
  have n30 := @fn0_nn ρ X191
  have n32 := @fn0_nn ρ X232
  have n34 := @fn0_nn ρ X237
  have n37 := @fn0_nn ρ X285
  have n41 := @fn0_nn ρ X336
  have n45 := @fn0_nn ρ X394
  have n47 := @fn0_nn ρ X455
  omega
def f74 : E := (.imp X517 (.not (.cmp .lss X454 (.int 1))))
theorem fact74 (ρ : Env) : E.B ρ f74 = true := by
  unfold f74
  rw [sm_B_imp]
  simp only [sm_B_and]
  rintro ⟨p0, p1, p2, p3, p4, p5, p6, p7, p8, p9, p10, p11, p12, p13, p14, p15, p16, p17, p18, p19, p20, p21, p22, p23, p24, p25, p26, p27, p28, p29, p30, p31, p32, p33, p34, p35, p36, p37, p38, p39, p40, p41, p42, p43, p44, p45, p46, p47, p48, p49, p50, p51, p52, p53, p54, p55, p56, p57⟩
  have hr0 := @rows_nn ρ (.fn 1 (.pr X0 (.int 8))) (12)
  have hr1 := @rows_nn ρ (.fn 1 (.pr X0 (.int 9))) (12)
  have hr2 := @rows_nn ρ (.fn 1 (.pr X0 (.int 22))) (12)
  have hr3 := @rows_nn ρ (.fn 1 (.pr X0 (.int 23))) (12)
  have hr4 := @rows_nn ρ (.fn 1 (.pr X0 (.int 29))) (12)
  have hr5 := @rows_nn ρ (.fn 1 (.pr X0 (.int 30))) (5)
  have hr6 := @rows_nn ρ (.fn 1 (.pr X0 (.int 31))) (5)
  have ht0 := @tg_nn ρ (.fn 1 (.pr X0 (.int 30))) (.fn 9 (.pr (.fn 1 (.pr X0 (.int 30))) (.int 5)))
  have ht1 := @tg_nn ρ (.fn 1 (.pr X0 (.int 31))) (.fn 9 (.pr (.fn 1 (.pr X0 (.int 31))) (.int 5)))
  try simp only [smZ] at *
  have n2 := @fn0_nn ρ X7
  have n4 := @fn0_nn ρ X2
  have n6 := @fn0_nn ρ X15
  have n8 := @fn0_nn ρ X20
  have n11 := @fn0_nn ρ X35
  have n14 := @fn0_nn ρ X53
  have n16 := @fn0_nn ρ X73
  have n18 := @fn0_nn ρ X77
  have n20 := @fn0_nn ρ X82
  have n22 := @fn0_nn ρ X111
  have n24 := @fn0_nn ρ X116
  have n27 := @fn0_nn ρ X152
  have n30 := @fn0_nn ρ X191
  have n32 := @fn0_nn ρ X232
  have n34 := @fn0_nn ρ X237
  have n37 := @fn0_nn ρ X285
  have n41 := @fn0_nn ρ X336
  have n45 := @fn0_nn ρ X394
  have n47 := @fn0_nn ρ X455
  omega
def f75 : E := (.imp X1 (.fn 118 (.pr (.int 0) (.fn 1 (.pr X0 (.int 32))))))
theorem fact75 (ρ : Env) : E.B ρ f75 = true := by
  unfold f75
  rw [sm_B_imp]
  intro p0
  exact vl p0 32 rfl
def f76 : E := (.imp X4 (.not (.cmp .lss (.int 1000) (.fn 0 (.fn 1 (.pr X0 (.int 32)))))))
theorem fact76 (ρ : Env) : E.B ρ f76 = true := by
  unfold f76
  rw [sm_B_imp]
  intro p0
  try simp only [smZ] at *
  have n1 := @fn0_nn ρ (.fn 1 (.pr X0 (.int 32)))
  omega
def f77 : E := (.imp X520 (.not (.cmp .lss X518 (.int 0))))
theorem fact77 (ρ : Env) : E.B ρ f77 = true := by
  unfold f77
  rw [sm_B_imp]
  intro p0
  try simp only [smZ] at *
  have n2 := @fn0_nn ρ X519
  omega
def f78 : E := (.imp X584 (.not (.cmp .lss (.int 1000000) X518)))
theorem fact78 (ρ : Env) : E.B ρ f78 = true := by
  unfold f78
  rw [sm_B_imp]
  simp only [sm_B_and]
  rintro ⟨p0, p1, p2, p3, p4, p5, p6, p7, p8, p9, p10, p11, p12, p13, p14, p15, p16, p17, p18, p19, p20, p21, p22, p23, p24, p25, p26, p27, p28, p29, p30, p31, p32, p33, p34, p35, p36, p37, p38, p39, p40, p41, p42, p43, p44, p45, p46, p47, p48, p49, p50, p51, p52, p53, p54, p55, p56, p57, p58, p59, p60⟩
  have hr0 := @rows_nn ρ (.fn 1 (.pr X0 (.int 8))) (12)
  have hr1 := @rows_nn ρ (.fn 1 (.pr X0 (.int 9))) (12)
  have hr2 := @rows_nn ρ (.fn 1 (.pr X0 (.int 22))) (12)
  have hr3 := @rows_nn ρ (.fn 1 (.pr X0 (.int 23))) (12)
  have hr4 := @rows_nn ρ (.fn 1 (.pr X0 (.int 29))) (12)
  have hr5 := @rows_nn ρ (.fn 1 (.pr X0 (.int 30))) (5)
  have hr6 := @rows_nn ρ (.fn 1 (.pr X0 (.int 31))) (5)
  have ht0 := @tg_nn ρ (.fn 1 (.pr X0 (.int 30))) (.fn 9 (.pr (.fn 1 (.pr X0 (.int 30))) (.int 5)))
  have ht1 := @tg_nn ρ (.fn 1 (.pr X0 (.int 31))) (.fn 9 (.pr (.fn 1 (.pr X0 (.int 31))) (.int 5)))
  try simp only [smZ] at *
  have n2 := @fn0_nn ρ X7
  have n4 := @fn0_nn ρ X2
  have n6 := @fn0_nn ρ X15
  have n8 := @fn0_nn ρ X20
  have n11 := @fn0_nn ρ X35
  have n14 := @fn0_nn ρ X53
  have n16 := @fn0_nn ρ X73
  have n18 := @fn0_nn ρ X77
  have n20 := @fn0_nn ρ X82
  have n22 := @fn0_nn ρ X111
  have n24 := @fn0_nn ρ X116
  have n27 := @fn0_nn ρ X152
  have n30 := @fn0_nn ρ X191
  have n32 := @fn0_nn ρ X232
  have n34 := @fn0_nn ρ X237
  have n37 := @fn0_nn ρ X285
  have n41 := @fn0_nn ρ X336
  have n45 := @fn0_nn ρ X394
  have n47 := @fn0_nn ρ X455
  have n48 := @fn0_nn ρ (.fn 1 (.pr X0 (.int 32)))
  have n50 := @fn0_nn ρ X519
  omega
def f79 : E := (.imp X584 (.not (.cmp .lss X518 (.int 1))))
theorem fact79 (ρ : Env) : E.B ρ f79 = true := by
  unfold f79
  rw [sm_B_imp]
  simp only [sm_B_and]
  rintro ⟨p0, p1, p2, p3, p4, p5, p6, p7, p8, p9, p10, p11, p12, p13, p14, p15, p16, p17, p18, p19, p20, p21, p22, p23, p24, p25, p26, p27, p28, p29, p30, p31, p32, p33, p34, p35, p36, p37, p38, p39, p40, p41, p42, p43, p44, p45, p46, p47, p48, p49, p50, p51, p52, p53, p54, p55, p56, p57, p58, p59, p60⟩
  have hr0 := @rows_nn ρ (.fn 1 (.pr X0 (.int 8))) (12)
  have hr1 := @rows_nn ρ (.fn 1 (.pr X0 (.int 9))) (12)
  have hr2 := @rows_nn ρ (.fn 1 (.pr X0 (.int 22))) (12)
  have hr3 := @rows_nn ρ (.fn 1 (.pr X0 (.int 23))) (12)
  have hr4 := @rows_nn ρ (.fn 1 (.pr X0 (.int 29))) (12)
  have hr5 := @rows_nn ρ (.fn 1 (.pr X0 (.int 30))) (5)
  have hr6 := @rows_nn ρ (.fn 1 (.pr X0 (.int 31))) (5)
  have ht0 := @tg_nn ρ (.fn 1 (.pr X0 (.int 30))) (.fn 9 (.pr (.fn 1 (.pr X0 (.int 30))) (.int 5)))
  have ht1 := @tg_nn ρ (.fn 1 (.pr X0 (.int 31))) (.fn 9 (.pr (.fn 1 (.pr X0 (.int 31))) (.int 5)))
  try simp only [smZ] at *
  have n2 := @fn0_nn ρ X7
  have n4 := @fn0_nn ρ X2
  have n6 := @fn0_nn ρ X15
  have n8 := @fn0_nn ρ X20
  have n11 := @fn0_nn ρ X35
  have n14 := @fn0_nn ρ X53
  have n16 := @fn0_nn ρ X73
  have n18 := @fn0_nn ρ X77
  have n20 := @fn0_nn ρ X82
  have n22 := @fn0_nn ρ X111
  have n24 := @fn0_nn ρ X116
  have n27 := @fn0_nn ρ X152
  have n30 := @fn0_nn ρ X191
  have n32 := @fn0_nn ρ X232
  have n34 := @fn0_nn ρ X237
  have n37 := @fn0_nn ρ X285
  have n41 := @fn0_nn ρ X336
  have n45 := @fn0_nn ρ X394
  have n47 := @fn0_nn ρ X455
  have n48 := @fn0_nn ρ (.fn 1 (.pr X0 (.int 32)))
  have n50 := @fn0_nn ρ X519
  omega
def f80 : E := (.imp X4 (.fn 118 (.pr (.int 0) (.fn 23 (.pr (.fn 9 (.pr (.fn 1 (.pr X0 (.int 33))) (.int 2))) (.fn 10 (.int 0)))))))
theorem fact80 (ρ : Env) : E.B ρ f80 = true := by
  unfold f80
  rw [sm_B_imp]
  intro p0
  obtain ⟨g0, g1⟩ : (-9223372036854775808) ≤ E.I ρ (.fn 9 (.pr (.fn 1 (.pr X0 (.int 33))) (.int 2))) ∧ E.I ρ (.fn 9 (.pr (.fn 1 (.pr X0 (.int 33))) (.int 2))) ≤ (9223372036854775807) := by
    have hr0 := @rows_nn ρ (.fn 1 (.pr X0 (.int 33))) (2)
    try simp only [smZ] at *
    omega
  exact ty0_I ⟨_, rfl⟩ g0 g1 ty0_nil
def f81 : E := (.imp (.and (.fn 101 (.pr X7 (.pr (.var 4) (.pr (.fn 10 (.int 0)) (.pr (.bool false) (.pr (.int 0) (.pr (.fn 23 (.pr (.fn 1 (.pr X0 (.int 0))) (.fn 10 (.int 0)))) (.int 1)))))))) (.and (.fn 101 (.pr X2 (.pr (.var 8) (.pr X7 (.pr (.var 4) (.pr (.int 0) (.pr (.fn 23 (.pr (.fn 1 (.pr X0 (.int 1))) (.fn 10 (.int 0)))) (.int 1)))))))) (.and (.fn 101 (.pr X15 (.pr (.var 12) (.pr X2 (.pr (.var 8) (.pr (.int 0) (.pr (.fn 23 (.pr (.fn 1 (.pr X0 (.int 2))) (.fn 23 (.pr (.fn 1 (.pr X0 (.int 3))) (.fn 23 (.pr (.fn 1 (.pr X0 (.int 4))) (.fn 23 (.pr (.fn 1 (.pr X0 (.int 5))) (.fn 10 (.int 0)))))))))) (.int 4)))))))) (.and (.fn 101 (.pr X20 (.pr (.var 16) (.pr X15 (.pr (.var 12) (.pr (.int 0) (.pr (.fn 23 (.pr (.fn 1 (.pr X0 (.int 6))) (.fn 23 (.pr (.fn 1 (.pr X0 (.int 7))) (.fn 10 (.int 0)))))) (.int 2)))))))) (.and (.fn 101 (.pr X35 (.pr (.var 20) (.pr X20 (.pr (.var 16) (.pr (.int 1) (.pr (.fn 1 (.pr X0 (.int 8))) (.fn 9 (.pr (.fn 1 (.pr X0 (.int 8))) (.int 12)))))))))) (.and (.fn 101 (.pr X53 (.pr (.var 24) (.pr X35 (.pr (.var 20) (.pr (.int 1) (.pr (.fn 1 (.pr X0 (.int 9))) (.fn 9 (.pr (.fn 1 (.pr X0 (.int 9))) (.int 12)))))))))) (.and (.fn 101 (.pr X73 (.pr (.var 28) (.pr X53 (.pr (.var 24) (.pr (.int 3) (.pr (.fn 23 (.pr (.fn 1 (.pr X0 (.int 10))) (.fn 23 (.pr (.fn 1 (.pr X0 (.int 11))) (.fn 23 (.pr (.fn 1 (.pr X0 (.int 12))) (.fn 10 (.int 0)))))))) (.int 3)))))))) (.and (.fn 101 (.pr X77 (.pr (.var 32) (.pr X73 (.pr (.var 28) (.pr (.int 0) (.pr (.fn 23 (.pr (.fn 1 (.pr X0 (.int 13))) (.fn 23 (.pr (.fn 1 (.pr X0 (.int 14))) (.fn 10 (.int 0)))))) (.int 2)))))))) (.and (.fn 101 (.pr X82 (.pr (.var 36) (.pr X77 (.pr (.var 32) (.pr (.int 0) (.pr (.fn 23 (.pr (.fn 1 (.pr X0 (.int 15))) (.fn 10 (.int 0)))) (.int 1)))))))) (.and (.fn 101 (.pr X111 (.pr (.var 40) (.pr X82 (.pr (.var 36) (.pr (.int 0) (.pr (.fn 23 (.pr (.fn 1 (.pr X0 (.int 16))) (.fn 23 (.pr (.fn 1 (.pr X0 (.int 17))) (.fn 23 (.pr (.fn 1 (.pr X0 (.int 18))) (.fn 23 (.pr (.fn 1 (.pr X0 (.int 19))) (.fn 10 (.int 0)))))))))) (.int 4)))))))) (.and (.fn 101 (.pr X116 (.pr (.var 44) (.pr X111 (.pr (.var 40) (.pr (.int 0) (.pr (.fn 23 (.pr (.fn 1 (.pr X0 (.int 20))) (.fn 23 (.pr (.fn 1 (.pr X0 (.int 21))) (.fn 10 (.int 0)))))) (.int 2)))))))) (.and (.fn 101 (.pr X152 (.pr (.var 48) (.pr X116 (.pr (.var 44) (.pr (.int 1) (.pr (.fn 1 (.pr X0 (.int 22))) (.fn 9 (.pr (.fn 1 (.pr X0 (.int 22))) (.int 12)))))))))) (.and (.fn 101 (.pr X191 (.pr (.var 52) (.pr X152 (.pr (.var 48) (.pr (.int 1) (.pr (.fn 1 (.pr X0 (.int 23))) (.fn 9 (.pr (.fn 1 (.pr X0 (.int 23))) (.int 12)))))))))) (.and (.fn 101 (.pr X232 (.pr (.var 56) (.pr X191 (.pr (.var 52) (.pr (.int 3) (.pr (.fn 23 (.pr (.fn 1 (.pr X0 (.int 24))) (.fn 23 (.pr (.fn 1 (.pr X0 (.int 25))) (.fn 23 (.pr (.fn 1 (.pr X0 (.int 26))) (.fn 10 (.int 0)))))))) (.int 3)))))))) (.and (.fn 101 (.pr X237 (.pr (.var 60) (.pr X232 (.pr (.var 56) (.pr (.int 0) (.pr (.fn 23 (.pr (.fn 1 (.pr X0 (.int 27))) (.fn 23 (.pr (.fn 1 (.pr X0 (.int 28))) (.fn 10 (.int 0)))))) (.int 2)))))))) (.and (.fn 101 (.pr X285 (.pr (.var 64) (.pr X237 (.pr (.var 60) (.pr (.int 1) (.pr (.fn 1 (.pr X0 (.int 29))) (.fn 9 (.pr (.fn 1 (.pr X0 (.int 29))) (.int 12)))))))))) (.and (.fn 101 (.pr X336 (.pr (.var 68) (.pr X285 (.pr (.var 64) (.pr (.int 2) (.pr (.fn 1 (.pr X0 (.int 30))) (.fn 9 (.pr (.fn 1 (.pr X0 (.int 30))) (.int 5)))))))))) (.and (.fn 101 (.pr X394 (.pr (.var 72) (.pr X336 (.pr (.var 68) (.pr (.int 2) (.pr (.fn 1 (.pr X0 (.int 31))) (.fn 9 (.pr (.fn 1 (.pr X0 (.int 31))) (.int 5)))))))))) (.and (.fn 102 (.pr X455 (.pr (.var 76) (.pr X394 (.pr (.var 72) (.pr (.fn 0 (.fn 1 (.pr X0 (.int 32)))) (.int 1000))))))) (.and (.fn 101 (.pr X519 (.pr (.var 80) (.pr X455 (.pr (.var 76) (.pr (.int 0) (.pr (.fn 1 (.pr X0 (.int 32))) (.fn 0 (.fn 1 (.pr X0 (.int 32))))))))))) (.and (.fn 102 (.pr (.var 81) (.pr (.var 84) (.pr X519 (.pr (.var 80) (.pr (.fn 9 (.pr (.fn 1 (.pr X0 (.int 33))) (.int 2))) (.int 1000))))))) X1))))))))))))))))))))) (.fn 108 (.pr (.var 81) (.pr (.var 84) (.pr X0 (.pr (.int 33) (.int 0)))))))
theorem fact81 (ρ : Env) : E.B ρ f81 = true := by
  unfold f81
  rw [sm_B_imp]
  simp only [sm_B_and]
  rintro ⟨p0, p1, p2, p3, p4, p5, p6, p7, p8, p9, p10, p11, p12, p13, p14, p15, p16, p17, p18, p19, p20, p21⟩
  exact t108_first p21 p0 p1 p2 p3 p4 p5 p6 p7 p8 p9 p10 p11 p12 p13 p14 p15 p16 p17 p18 p19 p20
def f82 : E := (.imp X651 (.not (.cmp .lss X585 (.int 1))))
theorem fact82 (ρ : Env) : E.B ρ f82 = true := by
  unfold f82
  rw [sm_B_imp]
  simp only [sm_B_and]
  rintro ⟨p0, p1, p2, p3, p4, p5, p6, p7, p8, p9, p10, p11, p12, p13, p14, p15, p16, p17, p18, p19, p20, p21, p22, p23, p24, p25, p26, p27, p28, p29, p30, p31, p32, p33, p34, p35, p36, p37, p38, p39, p40, p41, p42, p43, p44, p45, p46, p47, p48, p49, p50, p51, p52, p53, p54, p55, p56, p57, p58, p59, p60, p61, p62, p63⟩
  have hr0 := @rows_nn ρ (.fn 1 (.pr X0 (.int 8))) (12)
  have hr1 := @rows_nn ρ (.fn 1 (.pr X0 (.int 9))) (12)
  have hr2 := @rows_nn ρ (.fn 1 (.pr X0 (.int 22))) (12)
  have hr3 := @rows_nn ρ (.fn 1 (.pr X0 (.int 23))) (12)
  have hr4 := @rows_nn ρ (.fn 1 (.pr X0 (.int 29))) (12)
  have hr5 := @rows_nn ρ (.fn 1 (.pr X0 (.int 30))) (5)
  have hr6 := @rows_nn ρ (.fn 1 (.pr X0 (.int 31))) (5)
  have ht0 := @tg_nn ρ (.fn 1 (.pr X0 (.int 30))) (.fn 9 (.pr (.fn 1 (.pr X0 (.int 30))) (.int 5)))
  have ht1 := @tg_nn ρ (.fn 1 (.pr X0 (.int 31))) (.fn 9 (.pr (.fn 1 (.pr X0 (.int 31))) (.int 5)))
  try simp only [smZ] at *
  have n2 := @fn0_nn ρ X7
  have n4 := @fn0_nn ρ X2
  have n6 := @fn0_nn ρ X15
  have n8 := @fn0_nn ρ X20
  have n11 := @fn0_nn ρ X35
  have n14 := @fn0_nn ρ X53
  have n16 := @fn0_nn ρ X73
  have n18 := @fn0_nn ρ X77
  have n20 := @fn0_nn ρ X82
  have n22 := @fn0_nn ρ X111
  have n24 := @fn0_nn ρ X116
  have n27 := @fn0_nn ρ X152
  have n30 := @fn0_nn ρ X191
  have n32 := @fn0_nn ρ X232
  have n34 := @fn0_nn ρ X237
  have n37 := @fn0_nn ρ X285
  have n41 := @fn0_nn ρ X336
  have n45 := @fn0_nn ρ X394
  have n47 := @fn0_nn ρ X455
  have n48 := @fn0_nn ρ (.fn 1 (.pr X0 (.int 32)))
  have n50 := @fn0_nn ρ X519
  have n52 := @fn0_nn ρ (.var 81)
  omega
def f83 : E := (.imp X651 (.not (.cmp .lss (.fn 6 (.pr (.int 60000) (.fn 8 (.pr (.int 20) (.int 0))))) X585)))
theorem fact83 (ρ : Env) : E.B ρ f83 = true := by
  unfold f83
  rw [sm_B_imp]
  simp only [sm_B_and]
  rintro ⟨p0, p1, p2, p3, p4, p5, p6, p7, p8, p9, p10, p11, p12, p13, p14, p15, p16, p17, p18, p19, p20, p21, p22, p23, p24, p25, p26, p27, p28, p29, p30, p31, p32, p33, p34, p35, p36, p37, p38, p39, p40, p41, p42, p43, p44, p45, p46, p47, p48, p49, p50, p51, p52, p53, p54, p55, p56, p57, p58, p59, p60, p61, p62, p63⟩
  have hr0 := @rows_nn ρ (.fn 1 (.pr X0 (.int 8))) (12)
  have hr1 := @rows_nn ρ (.fn 1 (.pr X0 (.int 9))) (12)
  have hr2 := @rows_nn ρ (.fn 1 (.pr X0 (.int 22))) (12)
  have hr3 := @rows_nn ρ (.fn 1 (.pr X0 (.int 23))) (12)
  have hr4 := @rows_nn ρ (.fn 1 (.pr X0 (.int 29))) (12)
  have hr5 := @rows_nn ρ (.fn 1 (.pr X0 (.int 30))) (5)
  have hr6 := @rows_nn ρ (.fn 1 (.pr X0 (.int 31))) (5)
  have ht0 := @tg_nn ρ (.fn 1 (.pr X0 (.int 30))) (.fn 9 (.pr (.fn 1 (.pr X0 (.int 30))) (.int 5)))
  have ht1 := @tg_nn ρ (.fn 1 (.pr X0 (.int 31))) (.fn 9 (.pr (.fn 1 (.pr X0 (.int 31))) (.int 5)))
  try simp only [smZ] at *
  have n2 := @fn0_nn ρ X7
  have n4 := @fn0_nn ρ X2
  have n6 := @fn0_nn ρ X15
  have n8 := @fn0_nn ρ X20
  have n11 := @fn0_nn ρ X35
  have n14 := @fn0_nn ρ X53
  have n16 := @fn0_nn ρ X73
  have n18 := @fn0_nn ρ X77
  have n20 := @fn0_nn ρ X82
  have n22 := @fn0_nn ρ X111
  have n24 := @fn0_nn ρ X116
  have n27 := @fn0_nn ρ X152
  have n30 := @fn0_nn ρ X191
  have n32 := @fn0_nn ρ X232
  have n34 := @fn0_nn ρ X237
  have n37 := @fn0_nn ρ X285
  have n41 := @fn0_nn ρ X336
  have n45 := @fn0_nn ρ X394
  have n47 := @fn0_nn ρ X455
  have n48 := @fn0_nn ρ (.fn 1 (.pr X0 (.int 32)))
  have n50 := @fn0_nn ρ X519
  have n52 := @fn0_nn ρ (.var 81)
  omega
def f84 : E := (.imp (.and X654 (.and X656 X660)) (.not (.cmp .lss (.int 2000000) X653)))
theorem fact84 (ρ : Env) : E.B ρ f84 = true := by
  unfold f84
  rw [sm_B_imp]
  simp only [sm_B_and]
  rintro ⟨p0, p1, p2, p3, p4⟩
  have hr0 := @rows_nn ρ (.fn 1 (.pr X0 (.int 33))) (2)
  try simp only [smZ] at *
  have n3 := @fn0_nn ρ X655
  omega
def f85 : E := (.imp (.and X654 (.and X656 (.and X662 (.and X4 X663)))) (.not (.cmp .lss (.int 2000000) X653)))
theorem fact85 (ρ : Env) : E.B ρ f85 = true := by
  unfold f85
  rw [sm_B_imp]
  simp only [sm_B_and]
  rintro ⟨p0, p1, p2, p3, p4⟩
  have hr0 := @rows_nn ρ (.fn 1 (.pr X0 (.int 33))) (2)
  try simp only [smZ] at *
  have n3 := @fn0_nn ρ X655
  omega
def f86 : E := (.imp (.and X658 (.and X659 X1)) (.fn 118 (.pr (.int 0) (.fn 23 (.pr (.fn 1 (.pr (.fn 1 (.pr X0 (.int 33))) (.fn 6 (.pr (.fn 8 (.pr X652 (.int 2))) (.int 0))))) (.fn 23 (.pr (.fn 1 (.pr (.fn 1 (.pr X0 (.int 33))) (.fn 6 (.pr (.fn 8 (.pr X652 (.int 2))) (.int 1))))) (.fn 10 (.int 0)))))))))
theorem fact86 (ρ : Env) : E.B ρ f86 = true := by
  unfold f86
  rw [sm_B_imp]
  simp only [sm_B_and]
  rintro ⟨p0, p1, p2⟩
  exact t118_row33 p2 (by simp only [smZ] at * <;> omega) (by simp only [smZ] at * <;> omega)
def f87 : E := (.imp X1 (.fn 118 (.pr (.int 0) (.fn 23 (.pr (.fn 1 (.pr X0 (.int 34))) (.fn 23 (.pr (.fn 1 (.pr X0 (.int 35))) (.fn 23 (.pr (.fn 1 (.pr X0 (.int 36))) (.fn 23 (.pr (.fn 1 (.pr X0 (.int 37))) (.fn 23 (.pr (.fn 1 (.pr X0 (.int 38))) (.fn 23 (.pr (.fn 1 (.pr X0 (.int 39))) (.fn 23 (.pr (.fn 1 (.pr X0 (.int 40))) (.fn 23 (.pr (.fn 1 (.pr X0 (.int 41))) (.fn 10 (.int 0)))))))))))))))))))))
theorem fact87 (ρ : Env) : E.B ρ f87 = true := by
  unfold f87
  rw [sm_B_imp]
  intro p0
  exact (ty0_c (v3 p0 34 rfl rfl) (ty0_c (v3 p0 35 rfl rfl) (ty0_c (v3 p0 36 rfl rfl) (ty0_c (v3 p0 37 rfl rfl) (ty0_c (v3 p0 38 rfl rfl) (ty0_c (v3 p0 39 rfl rfl) (ty0_c (v3 p0 40 rfl rfl) (ty0_c (v3 p0 41 rfl rfl) ty0_nil))))))))
def f88 : E := (.imp (.and X658 (.and X666 (.and X659 (.and (.fn 101 (.pr X667 (.pr (.var 264) (.pr X655 (.pr (.var 259) (.pr (.int 0) (.pr (.fn 23 (.pr (.fn 1 (.pr (.fn 1 (.pr X0 (.int 33))) (.fn 6 (.pr (.fn 8 (.pr X652 (.int 2))) (.int 0))))) (.fn 23 (.pr (.fn 1 (.pr (.fn 1 (.pr X0 (.int 33))) (.fn 6 (.pr (.fn 8 (.pr X652 (.int 2))) (.int 1))))) (.fn 10 (.int 0)))))) (.int 2)))))))) (.and X4 X1))))) (.fn 108 (.pr X667 (.pr (.var 264) (.pr X0 (.pr (.int 33) X668))))))
theorem fact88 (ρ : Env) : E.B ρ f88 = true := by
  unfold f88
  rw [sm_B_imp]
  simp only [sm_B_and]
  rintro ⟨p0, p1, p2, p3, p4, p5⟩
  have g0 : E.I ρ X668 = E.I ρ (.fn 6 (.pr X652 (.int 1))) := by
    have hr0 := @rows_nn ρ (.fn 1 (.pr X0 (.int 33))) (2)
    try simp only [smZ] at *
    obtain ⟨a2, ea2, qa2⟩ := cs_i64 ((E.I ρ X652) + (1))
    try simp only [ea2] at *
    omega
  exact t108_step33 p5 p1 p3 (by simp only [smZ] at * <;> omega) (by simp only [smZ] at * <;> omega) g0
def f89 : E := (.imp X670 (.not (.cmp .lss X669 (.int 0))))
theorem fact89 (ρ : Env) : E.B ρ f89 = true := by
  unfold f89
  rw [sm_B_imp]
  intro p0
  try simp only [smZ] at *
  have n2 := @fn0_nn ρ X667
  omega
def f90 : E := (.imp X660 (.not (.cmp .lss X668 (.int 0))))
theorem fact90 (ρ : Env) : E.B ρ f90 = true := by
  unfold f90
  rw [sm_B_imp]
  simp only [sm_B_and]
  rintro ⟨p0, p1, p2⟩
  have hr0 := @rows_nn ρ (.fn 1 (.pr X0 (.int 33))) (2)
  try simp only [smZ] at *
  obtain ⟨a2, ea2, qa2⟩ := cs_i64 ((E.I ρ X652) + (1))
  try simp only [ea2] at *
  omega
def f91 : E := (.imp X684 (.not (.cmp .lss (.int 1000000) X669)))
theorem fact91 (ρ : Env) : E.B ρ f91 = true := by
  unfold f91
  rw [sm_B_imp]
  simp only [sm_B_and]
  rintro ⟨p0, p1, p2, p3, p4, p5, p6, p7, p8⟩
  have hr0 := @rows_nn ρ (.fn 1 (.pr X0 (.int 33))) (2)
  try simp only [smZ] at *
  have n3 := @fn0_nn ρ X655
  have n6 := @fn0_nn ρ X667
  omega
def f92 : E := (.imp X660 (.not (.cmp .lss (.fn 9 (.pr (.fn 1 (.pr X0 (.int 33))) (.int 2))) X668)))
theorem fact92 (ρ : Env) : E.B ρ f92 = true := by
  unfold f92
  rw [sm_B_imp]
  simp only [sm_B_and]
  rintro ⟨p0, p1, p2⟩
  have hr0 := @rows_nn ρ (.fn 1 (.pr X0 (.int 33))) (2)
  try simp only [smZ] at *
  obtain ⟨a2, ea2, qa2⟩ := cs_i64 ((E.I ρ X652) + (1))
  try simp only [ea2] at *
  omega
def f93 : E := (.imp X684 (.not (.cmp .lss X669 (.int 1))))
theorem fact93 (ρ : Env) : E.B ρ f93 = true := by
  unfold f93
  rw [sm_B_imp]
  simp only [sm_B_and]
  rintro ⟨p0, p1, p2, p3, p4, p5, p6, p7, p8⟩
  have hr0 := @rows_nn ρ (.fn 1 (.pr X0 (.int 33))) (2)
  try simp only [smZ] at *
  have n3 := @fn0_nn ρ X655
  have n6 := @fn0_nn ρ X667
  omega
def f94 : E := (.imp (.and X654 (.and X672 X691)) (.not (.cmp .lss X669 (.int 1))))
theorem fact94 (ρ : Env) : E.B ρ f94 = true := by
  unfold f94
  rw [sm_B_imp]
  simp only [sm_B_and]
  rintro ⟨p0, p1, p2, p3, p4, p5, p6, p7, p8⟩
  have hr0 := @rows_nn ρ (.fn 1 (.pr X0 (.int 33))) (2)
  try simp only [smZ] at *
  have n3 := @fn0_nn ρ X655
  have n6 := @fn0_nn ρ X667
  omega
def f95 : E := (.imp X4 (.fn 118 (.pr (.int 0) (.fn 23 (.pr (.fn 9 (.pr (.fn 1 (.pr X0 (.int 42))) (.int 3))) (.fn 10 (.int 0)))))))
theorem fact95 (ρ : Env) : E.B ρ f95 = true := by
  unfold f95
  rw [sm_B_imp]
  intro p0
  obtain ⟨g0, g1⟩ : (-9223372036854775808) ≤ E.I ρ (.fn 9 (.pr (.fn 1 (.pr X0 (.int 42))) (.int 3))) ∧ E.I ρ (.fn 9 (.pr (.fn 1 (.pr X0 (.int 42))) (.int 3))) ≤ (9223372036854775807) := by
    have hr0 := @rows_nn ρ (.fn 1 (.pr X0 (.int 42))) (3)
    try simp only [smZ] at *
    omega
  exact ty0_I ⟨_, rfl⟩ g0 g1 ty0_nil
def f96 : E := (.imp (.and X654 X691) (.not (.cmp .lss (.fn 6 (.pr (.int 60000) (.fn 8 (.pr (.int 20) X668)))) X669)))
theorem fact96 (ρ : Env) : E.B ρ f96 = true := by
  unfold f96
  rw [sm_B_imp]
  simp only [sm_B_and]
  rintro ⟨p0, p1, p2, p3, p4, p5, p6, p7⟩
  have hr0 := @rows_nn ρ (.fn 1 (.pr X0 (.int 33))) (2)
  try simp only [smZ] at *
  have n3 := @fn0_nn ρ X655
  have n6 := @fn0_nn ρ X667
  obtain ⟨a6, ea6, qa6⟩ := cs_i64 ((E.I ρ X652) + (1))
  try simp only [ea6] at *
  omega
def f97 : E := (.imp (.and X662 (.and X666 (.and X663 (.and (.fn 101 (.pr X667 (.pr (.var 264) (.pr X655 (.pr (.var 259) (.pr (.int 0) (.pr (.fn 23 (.pr (.fn 1 (.pr X0 (.int 34))) (.fn 23 (.pr (.fn 1 (.pr X0 (.int 35))) (.fn 23 (.pr (.fn 1 (.pr X0 (.int 36))) (.fn 23 (.pr (.fn 1 (.pr X0 (.int 37))) (.fn 23 (.pr (.fn 1 (.pr X0 (.int 38))) (.fn 23 (.pr (.fn 1 (.pr X0 (.int 39))) (.fn 23 (.pr (.fn 1 (.pr X0 (.int 40))) (.fn 23 (.pr (.fn 1 (.pr X0 (.int 41))) (.fn 10 (.int 0)))))))))))))))))) (.int 8)))))))) (.and (.fn 102 (.pr (.var 265) (.pr (.var 268) (.pr X667 (.pr (.var 264) (.pr (.fn 9 (.pr (.fn 1 (.pr X0 (.int 42))) (.int 3))) (.int 20))))))) X4))))) (.fn 108 (.pr (.var 265) (.pr (.var 268) (.pr X0 (.pr (.int 42) (.int 0)))))))
theorem fact97 (ρ : Env) : E.B ρ f97 = true := by
  unfold f97
  rw [sm_B_imp]
  simp only [sm_B_and]
  rintro ⟨p0, p1, p2, p3, p4, p5⟩
  have g0 : E.I ρ X652 = E.I ρ (.fn 9 (.pr (.fn 1 (.pr X0 (.int 33))) (.int 2))) := by
    have hr0 := @rows_nn ρ (.fn 1 (.pr X0 (.int 33))) (2)
    have hr1 := @rows_nn ρ (.fn 1 (.pr X0 (.int 42))) (3)
    try simp only [smZ] at *
    omega
  exact t108_next p1 g0 p3 p4
def f98 : E := (.imp X660 (.cmp .lss (.fn 7 (.pr (.fn 9 (.pr (.fn 1 (.pr X0 (.int 33))) (.int 2))) X668)) (.fn 7 (.pr (.fn 9 (.pr (.fn 1 (.pr X0 (.int 33))) (.int 2))) X652))))
theorem fact98 (ρ : Env) : E.B ρ f98 = true := by
  unfold f98
  rw [sm_B_imp]
  simp only [sm_B_and]
  rintro ⟨p0, p1, p2⟩
  have hr0 := @rows_nn ρ (.fn 1 (.pr X0 (.int 33))) (2)
  try simp only [smZ] at *
  obtain ⟨a2, ea2, qa2⟩ := cs_i64 ((E.I ρ X652) + (1))
  try simp only [ea2] at *
  omega
def f99 : E := (.imp X706 (.not (.cmp .lss X692 (.int 1))))
theorem fact99 (ρ : Env) : E.B ρ f99 = true := by
  unfold f99
  rw [sm_B_imp]
  simp only [sm_B_and]
  rintro ⟨p0, p1, p2, p3, p4, p5, p6, p7, p8, p9, p10, p11⟩
  have hr0 := @rows_nn ρ (.fn 1 (.pr X0 (.int 33))) (2)
  try simp only [smZ] at *
  have n3 := @fn0_nn ρ X655
  have n6 := @fn0_nn ρ X667
  have n8 := @fn0_nn ρ (.var 265)
  omega
def f100 : E := (.imp X660 (.not (.cmp .lss (.fn 7 (.pr (.fn 9 (.pr (.fn 1 (.pr X0 (.int 33))) (.int 2))) X668)) (.int 0))))
theorem fact100 (ρ : Env) : E.B ρ f100 = true := by
  unfold f100
  rw [sm_B_imp]
  simp only [sm_B_and]
  rintro ⟨p0, p1, p2⟩
  have hr0 := @rows_nn ρ (.fn 1 (.pr X0 (.int 33))) (2)
  try simp only [smZ] at *
  obtain ⟨a2, ea2, qa2⟩ := cs_i64 ((E.I ρ X652) + (1))
  try simp only [ea2] at *
  omega
def f101 : E := (.imp X706 (.not (.cmp .lss (.fn 6 (.pr (.int 70000) (.fn 8 (.pr (.int 30) (.int 0))))) X692)))
theorem fact101 (ρ : Env) : E.B ρ f101 = true := by
  unfold f101
  rw [sm_B_imp]
  simp only [sm_B_and]
  rintro ⟨p0, p1, p2, p3, p4, p5, p6, p7, p8, p9, p10, p11⟩
  have hr0 := @rows_nn ρ (.fn 1 (.pr X0 (.int 33))) (2)
  try simp only [smZ] at *
  have n3 := @fn0_nn ρ X655
  have n6 := @fn0_nn ρ X667
  have n8 := @fn0_nn ρ (.var 265)
  omega
def f102 : E := (.imp (.and X710 (.and X712 X716)) (.not (.cmp .lss (.int 2000000) X708)))
theorem fact102 (ρ : Env) : E.B ρ f102 = true := by
  unfold f102
  rw [sm_B_imp]
  simp only [sm_B_and]
  rintro ⟨p0, p1, p2, p3, p4⟩
  have hr0 := @rows_nn ρ (.fn 1 (.pr X0 (.int 42))) (3)
  try simp only [smZ] at *
  have n3 := @fn0_nn ρ X711
  omega
def f103 : E := (.imp (.and X718 (.and X721 (.and (.not X715) X4))) (.fn 104 (.pr X711 (.pr (.var 323) (.pr X0 (.int 43))))))
theorem fact103 (ρ : Env) : E.B ρ f103 = true := by
  unfold f103
  rw [sm_B_imp]
  simp only [sm_B_and]
  rintro ⟨p0, p1, p2, p3⟩
  have g0 : E.I ρ X707 = E.I ρ (.fn 9 (.pr (.fn 1 (.pr X0 (.int 42))) (.int 3))) := by
    have hr0 := @rows_nn ρ (.fn 1 (.pr X0 (.int 42))) (3)
    try simp only [smZ] at *
    omega
  exact t104_end p1 g0
def f104 : E := (.imp (.and X714 (.and X715 X1)) (.fn 118 (.pr (.int 0) (.fn 23 (.pr (.fn 1 (.pr (.fn 1 (.pr X0 (.int 42))) (.fn 6 (.pr (.fn 8 (.pr X707 (.int 3))) (.int 0))))) (.fn 23 (.pr (.fn 1 (.pr (.fn 1 (.pr X0 (.int 42))) (.fn 6 (.pr (.fn 8 (.pr X707 (.int 3))) (.int 1))))) (.fn 23 (.pr (.fn 1 (.pr (.fn 1 (.pr X0 (.int 42))) (.fn 6 (.pr (.fn 8 (.pr X707 (.int 3))) (.int 2))))) (.fn 10 (.int 0)))))))))))
theorem fact104 (ρ : Env) : E.B ρ f104 = true := by
  unfold f104
  rw [sm_B_imp]
  simp only [sm_B_and]
  rintro ⟨p0, p1, p2⟩
  exact t118_row42 p2 (by simp only [smZ] at * <;> omega) (by simp only [smZ] at * <;> omega)
def f105 : E := (.imp (.and X710 (.and X712 (.and X718 (.and X4 (.not X715))))) (.not (.cmp .lss (.int 100000) X708)))
theorem fact105 (ρ : Env) : E.B ρ f105 = true := by
  unfold f105
  rw [sm_B_imp]
  simp only [sm_B_and]
  rintro ⟨p0, p1, p2, p3, p4⟩
  have hr0 := @rows_nn ρ (.fn 1 (.pr X0 (.int 42))) (3)
  try simp only [smZ] at *
  have n3 := @fn0_nn ρ X711
  omega
def f106 : E := (.imp (.and X714 (.and X721 (.and X715 (.and (.fn 101 (.pr (.var 325) (.pr (.var 328) (.pr X711 (.pr (.var 323) (.pr (.int 0) (.pr (.fn 23 (.pr (.fn 1 (.pr (.fn 1 (.pr X0 (.int 42))) (.fn 6 (.pr (.fn 8 (.pr X707 (.int 3))) (.int 0))))) (.fn 23 (.pr (.fn 1 (.pr (.fn 1 (.pr X0 (.int 42))) (.fn 6 (.pr (.fn 8 (.pr X707 (.int 3))) (.int 1))))) (.fn 23 (.pr (.fn 1 (.pr (.fn 1 (.pr X0 (.int 42))) (.fn 6 (.pr (.fn 8 (.pr X707 (.int 3))) (.int 2))))) (.fn 10 (.int 0)))))))) (.int 3)))))))) (.and X4 X1))))) (.fn 108 (.pr (.var 325) (.pr (.var 328) (.pr X0 (.pr (.int 42) X722))))))
theorem fact106 (ρ : Env) : E.B ρ f106 = true := by
  unfold f106
  rw [sm_B_imp]
  simp only [sm_B_and]
  rintro ⟨p0, p1, p2, p3, p4, p5⟩
  have g0 : E.I ρ X722 = E.I ρ (.fn 6 (.pr X707 (.int 1))) := by
    have hr0 := @rows_nn ρ (.fn 1 (.pr X0 (.int 42))) (3)
    try simp only [smZ] at *
    obtain ⟨a2, ea2, qa2⟩ := cs_i64 ((E.I ρ X707) + (1))
    try simp only [ea2] at *
    omega
  exact t108_step42 p5 p1 p3 (by simp only [smZ] at * <;> omega) (by simp only [smZ] at * <;> omega) g0
def f107 : E := (.imp X716 (.not (.cmp .lss X722 (.int 0))))
theorem fact107 (ρ : Env) : E.B ρ f107 = true := by
  unfold f107
  rw [sm_B_imp]
  simp only [sm_B_and]
  rintro ⟨p0, p1, p2⟩
  have hr0 := @rows_nn ρ (.fn 1 (.pr X0 (.int 42))) (3)
  try simp only [smZ] at *
  obtain ⟨a2, ea2, qa2⟩ := cs_i64 ((E.I ρ X707) + (1))
  try simp only [ea2] at *
  omega
def f108 : E := (.imp X716 (.not (.cmp .lss (.fn 9 (.pr (.fn 1 (.pr X0 (.int 42))) (.int 3))) X722)))
theorem fact108 (ρ : Env) : E.B ρ f108 = true := by
  unfold f108
  rw [sm_B_imp]
  simp only [sm_B_and]
  rintro ⟨p0, p1, p2⟩
  have hr0 := @rows_nn ρ (.fn 1 (.pr X0 (.int 42))) (3)
  try simp only [smZ] at *
  obtain ⟨a2, ea2, qa2⟩ := cs_i64 ((E.I ρ X707) + (1))
  try simp only [ea2] at *
  omega
def f109 : E := (.imp (.and X710 (.and (.not (.cmp .lss X708 (.int 1))) X732)) (.not (.cmp .lss X723 (.int 1))))
theorem fact109 (ρ : Env) : E.B ρ f109 = true := by
  unfold f109
  rw [sm_B_imp]
  simp only [sm_B_and]
  rintro ⟨p0, p1, p2, p3, p4, p5, p6, p7, p8⟩
  have hr0 := @rows_nn ρ (.fn 1 (.pr X0 (.int 42))) (3)
  try simp only [smZ] at *
  have n3 := @fn0_nn ρ X711
  have n6 := @fn0_nn ρ (.var 325)
  omega
def f110 : E := (.imp (.and X710 X732) (.not (.cmp .lss (.fn 6 (.pr (.int 70000) (.fn 8 (.pr (.int 30) X722)))) X723)))
theorem fact110 (ρ : Env) : E.B ρ f110 = true := by
  unfold f110
  rw [sm_B_imp]
  simp only [sm_B_and]
  rintro ⟨p0, p1, p2, p3, p4, p5, p6, p7⟩
  have hr0 := @rows_nn ρ (.fn 1 (.pr X0 (.int 42))) (3)
  try simp only [smZ] at *
  have n3 := @fn0_nn ρ X711
  have n6 := @fn0_nn ρ (.var 325)
  obtain ⟨a6, ea6, qa6⟩ := cs_i64 ((E.I ρ X707) + (1))
  try simp only [ea6] at *
  omega
def f111 : E := (.imp X716 (.cmp .lss (.fn 7 (.pr (.fn 9 (.pr (.fn 1 (.pr X0 (.int 42))) (.int 3))) X722)) (.fn 7 (.pr (.fn 9 (.pr (.fn 1 (.pr X0 (.int 42))) (.int 3))) X707))))
theorem fact111 (ρ : Env) : E.B ρ f111 = true := by
  unfold f111
  rw [sm_B_imp]
  simp only [sm_B_and]
  rintro ⟨p0, p1, p2⟩
  have hr0 := @rows_nn ρ (.fn 1 (.pr X0 (.int 42))) (3)
  try simp only [smZ] at *
  obtain ⟨a2, ea2, qa2⟩ := cs_i64 ((E.I ρ X707) + (1))
  try simp only [ea2] at *
  omega
def f112 : E := (.imp X716 (.not (.cmp .lss (.fn 7 (.pr (.fn 9 (.pr (.fn 1 (.pr X0 (.int 42))) (.int 3))) X722)) (.int 0))))
theorem fact112 (ρ : Env) : E.B ρ f112 = true := by
  unfold f112
  rw [sm_B_imp]
  simp only [sm_B_and]
  rintro ⟨p0, p1, p2⟩
  have hr0 := @rows_nn ρ (.fn 1 (.pr X0 (.int 42))) (3)
  try simp only [smZ] at *
  obtain ⟨a2, ea2, qa2⟩ := cs_i64 ((E.I ρ X707) + (1))
  try simp only [ea2] at *
  omega
def facts : List E := [f0, f1, f2, f3, f4, f5, f6, f7, f8, f9, f10, f11, f12, f13, f14, f15, f16, f17, f18, f19, f20, f21, f22, f23, f24, f25, f26, f27, f28, f29, f30, f31, f32, f33, f34, f35, f36, f37, f38, f39, f40, f41, f42, f43, f44, f45, f46, f47, f48, f49, f50, f51, f52, f53, f54, f55, f56, f57, f58, f59, f60, f61, f62, f63, f64, f65, f66, f67, f68, f69, f70, f71, f72, f73, f74, f75, f76, f77, f78, f79, f80, f81, f82, f83, f84, f85, f86, f87, f88, f89, f90, f91, f92, f93, f94, f95, f96, f97, f98, f99, f100, f101, f102, f103, f104, f105, f106, f107, f108, f109, f110, f111, f112]
theorem facts_ok : ∀ e ∈ facts, ∀ ρ : Env, E.B ρ e = true := (all_cons fact0 (all_cons fact1 (all_cons fact2 (all_cons fact3 (all_cons fact4 (all_cons fact5 (all_cons fact6 (all_cons fact7 (all_cons fact8 (all_cons fact9 (all_cons fact10 (all_cons fact11 (all_cons fact12 (all_cons fact13 (all_cons fact14 (all_cons fact15 (all_cons fact16 (all_cons fact17 (all_cons fact18 (all_cons fact19 (all_cons fact20 (all_cons fact21 (all_cons fact22 (all_cons fact23 (all_cons fact24 (all_cons fact25 (all_cons fact26 (all_cons fact27 (all_cons fact28 (all_cons fact29 (all_cons fact30 (all_cons fact31 (all_cons fact32 (all_cons fact33 (all_cons fact34 (all_cons fact35 (all_cons fact36 (all_cons fact37 (all_cons fact38 (all_cons fact39 (all_cons fact40 (all_cons fact41 (all_cons fact42 (all_cons fact43 (all_cons fact44 (all_cons fact45 (all_cons fact46 (all_cons fact47 (all_cons fact48 (all_cons fact49 (all_cons fact50 (all_cons fact51 (all_cons fact52 (all_cons fact53 (all_cons fact54 (all_cons fact55 (all_cons fact56 (all_cons fact57 (all_cons fact58 (all_cons fact59 (all_cons fact60 (all_cons fact61 (all_cons fact62 (all_cons fact63 (all_cons fact64 (all_cons fact65 (all_cons fact66 (all_cons fact67 (all_cons fact68 (all_cons fact69 (all_cons fact70 (all_cons fact71 (all_cons fact72 (all_cons fact73 (all_cons fact74 (all_cons fact75 (all_cons fact76 (all_cons fact77 (all_cons fact78 (all_cons fact79 (all_cons fact80 (all_cons fact81 (all_cons fact82 (all_cons fact83 (all_cons fact84 (all_cons fact85 (all_cons fact86 (all_cons fact87 (all_cons fact88 (all_cons fact89 (all_cons fact90 (all_cons fact91 (all_cons fact92 (all_cons fact93 (all_cons fact94 (all_cons fact95 (all_cons fact96 (all_cons fact97 (all_cons fact98 (all_cons fact99 (all_cons fact100 (all_cons fact101 (all_cons fact102 (all_cons fact103 (all_cons fact104 (all_cons fact105 (all_cons fact106 (all_cons fact107 (all_cons fact108 (all_cons fact109 (all_cons fact110 (all_cons fact111 (all_cons fact112 all_nil)))))))))))))))))))))))))))))))))))))))))))))))))))))))))))))))))))))))))))))))))))))))))))))))))))))))))))))))))
end p8
set_option maxRecDepth 100000 in
theorem spec8_0 : NatOk Try.prog (specNat (spV)) :=
  spec_of_check good (facts := p8.facts) p8.facts_ok (anns := annV) (plainAnns_ok _ (by kernel_rfl)) (nats := natl9) natl9_ok (n := 3000) (by kernel_rfl)
def natl10 : List Nat1 := specNat (spV) :: natl9
theorem natl10_ok : ∀ x ∈ natl10, NatOk Try.prog x := by
  intro x hx
  rcases List.mem_cons.1 hx with rfl | hx
  · exact spec8_0
  exact natl9_ok x hx

end
end Go.Proofs.Ytoicbojdnjcmiaa.viewEqual

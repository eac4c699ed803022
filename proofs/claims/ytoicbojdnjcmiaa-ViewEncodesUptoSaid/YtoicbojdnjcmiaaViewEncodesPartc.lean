/-
  ViewEncodes: contracts of functions, part 3.
-/
import Derived.Test.YtoicbojdnjcmiaaRows
import Derived.Test.YtoicbojdnjcmiaaTheory
import Derived.WalkKit
import Derived.ProofKit
import Derived.OpenShut
import Derived.ChangeOld
import Derived.Below
import Derived.KernelRfl
import Derived.Lib.SmallJoins
import Derived.Test.YtoicbojdnjcmiaaViewEncodesPartb
namespace Go.Proofs.Ytoicbojdnjcmiaa.viewEncodes
open Go.ChangeShapes Go.WideShapes Go.ChangeAt Go.RowKit
open Go.SX
set_option linter.unusedVariables false
set_option linter.unusedSimpArgs false
set_option maxRecDepth 100000
noncomputable section
abbrev X0 : E := .var 0
abbrev X1 : E := .fn 119 X0
abbrev X2 : E := .cmp .eql (.var 6) (.fn 0 (.var 5))
abbrev X3 : E := .fn 112 X0
abbrev X4 : E := .not (.cmp .lss (.int 10) (.var 2))
abbrev X5 : E := .not (.cmp .lss (.var 2) (.int 1))
abbrev X6 : E := .cmp .eql (.var 2) (.fn 0 (.var 1))
abbrev X7 : E := .not (.cmp .lss (.fn 6 (.pr (.var 2) (.fn 8 (.pr (.int 10) (.int 1))))) (.var 6))
abbrev X8 : E := .not (.cmp .lss (.var 6) (.var 2))
abbrev X9 : E := .and X6 (.and X7 (.and X8 X2))
abbrev X10 : E := .and X5 X9
abbrev X11 : E := .and X4 X10
abbrev X12 : E := .and X3 X11
abbrev X13 : E := .cmp .eql (.var 10) (.fn 0 (.var 9))
abbrev X14 : E := .not (.cmp .lss (.fn 6 (.pr (.var 6) (.fn 8 (.pr (.int 10) (.int 4))))) (.var 10))
abbrev X15 : E := .not (.cmp .lss (.var 10) (.var 6))
abbrev X16 : E := .var 14
abbrev X17 : E := .cmp .eql X16 (.fn 0 (.var 13))
abbrev X18 : E := .not (.cmp .lss (.fn 6 (.pr (.var 10) (.fn 8 (.pr (.int 10) (.int 2))))) X16)
abbrev X19 : E := .not (.cmp .lss X16 (.var 10))
abbrev X20 : E := .and X13 (.and X18 (.and X19 X17))
abbrev X21 : E := .and X15 X20
abbrev X22 : E := .and X14 X21
abbrev X23 : E := .and X2 X22
abbrev X24 : E := .and X8 X23
abbrev X25 : E := .and X7 X24
abbrev X26 : E := .and X6 X25
abbrev X27 : E := .and X5 X26
abbrev X28 : E := .and X4 X27
abbrev X29 : E := .and X3 X28
abbrev X30 : E := .var 18
abbrev X31 : E := .cmp .eql X30 (.fn 0 (.var 17))
abbrev X32 : E := .not (.cmp .lss (.fn 6 (.pr X16 (.fn 8 (.pr (.int 10) (.fn 6 (.pr (.int 1) (.fn 8 (.pr (.int 12) (.fn 9 (.pr (.fn 1 (.pr X0 (.int 8))) (.int 12))))))))))) X30)
abbrev X33 : E := .not (.cmp .lss X30 X16)
abbrev X34 : E := .and X17 (.and X32 (.and X33 X31))
abbrev X35 : E := .and X19 X34
abbrev X36 : E := .and X18 X35
abbrev X37 : E := .and X13 X36
abbrev X38 : E := .and X15 X37
abbrev X39 : E := .and X14 X38
abbrev X40 : E := .and X2 X39
abbrev X41 : E := .and X8 X40
abbrev X42 : E := .and X7 X41
abbrev X43 : E := .and X6 X42
abbrev X44 : E := .and X5 X43
abbrev X45 : E := .and X4 X44
abbrev X46 : E := .and X3 X45
abbrev X47 : E := .var 22
abbrev X48 : E := .cmp .eql X47 (.fn 0 (.var 21))
abbrev X49 : E := .not (.cmp .lss (.fn 6 (.pr X30 (.fn 8 (.pr (.int 10) (.fn 6 (.pr (.int 1) (.fn 8 (.pr (.int 12) (.fn 9 (.pr (.fn 1 (.pr X0 (.int 9))) (.int 12))))))))))) X47)
abbrev X50 : E := .not (.cmp .lss X47 X30)
abbrev X51 : E := .and X31 (.and X49 (.and X50 X48))
abbrev X52 : E := .and X33 X51
abbrev X53 : E := .and X32 X52
abbrev X54 : E := .and X17 X53
abbrev X55 : E := .and X19 X54
abbrev X56 : E := .and X18 X55
abbrev X57 : E := .and X13 X56
abbrev X58 : E := .and X15 X57
abbrev X59 : E := .and X14 X58
abbrev X60 : E := .and X2 X59
abbrev X61 : E := .and X8 X60
abbrev X62 : E := .and X7 X61
abbrev X63 : E := .and X6 X62
abbrev X64 : E := .and X5 X63
abbrev X65 : E := .and X4 X64
abbrev X66 : E := .and X3 X65
abbrev X67 : E := .cmp .eql (.var 26) (.fn 0 (.var 25))
abbrev X68 : E := .not (.cmp .lss (.fn 6 (.pr X47 (.fn 8 (.pr (.int 10) (.int 3))))) (.var 26))
abbrev X69 : E := .not (.cmp .lss (.var 26) X47)
abbrev X70 : E := .cmp .eql (.var 30) (.fn 0 (.var 29))
abbrev X71 : E := .not (.cmp .lss (.fn 6 (.pr (.var 26) (.fn 8 (.pr (.int 10) (.int 2))))) (.var 30))
abbrev X72 : E := .not (.cmp .lss (.var 30) (.var 26))
abbrev X73 : E := .var 34
abbrev X74 : E := .cmp .eql X73 (.fn 0 (.var 33))
abbrev X75 : E := .not (.cmp .lss (.fn 6 (.pr (.var 30) (.fn 8 (.pr (.int 10) (.int 1))))) X73)
abbrev X76 : E := .not (.cmp .lss X73 (.var 30))
abbrev X77 : E := .and X70 (.and X75 (.and X76 X74))
abbrev X78 : E := .and X72 X77
abbrev X79 : E := .and X71 X78
abbrev X80 : E := .and X67 X79
abbrev X81 : E := .and X69 X80
abbrev X82 : E := .and X68 X81
abbrev X83 : E := .and X48 X82
abbrev X84 : E := .and X50 X83
abbrev X85 : E := .and X49 X84
abbrev X86 : E := .and X31 X85
abbrev X87 : E := .and X33 X86
abbrev X88 : E := .and X32 X87
abbrev X89 : E := .and X17 X88
abbrev X90 : E := .and X19 X89
abbrev X91 : E := .and X18 X90
abbrev X92 : E := .and X13 X91
abbrev X93 : E := .and X15 X92
abbrev X94 : E := .and X14 X93
abbrev X95 : E := .and X2 X94
abbrev X96 : E := .and X8 X95
abbrev X97 : E := .and X7 X96
abbrev X98 : E := .and X6 X97
abbrev X99 : E := .and X5 X98
abbrev X100 : E := .and X4 X99
abbrev X101 : E := .and X3 X100
abbrev X102 : E := .cmp .eql (.var 38) (.fn 0 (.var 37))
abbrev X103 : E := .not (.cmp .lss (.fn 6 (.pr X73 (.fn 8 (.pr (.int 10) (.int 4))))) (.var 38))
abbrev X104 : E := .not (.cmp .lss (.var 38) X73)
abbrev X105 : E := .var 42
abbrev X106 : E := .cmp .eql X105 (.fn 0 (.var 41))
abbrev X107 : E := .not (.cmp .lss (.fn 6 (.pr (.var 38) (.fn 8 (.pr (.int 10) (.int 2))))) X105)
abbrev X108 : E := .not (.cmp .lss X105 (.var 38))
abbrev X109 : E := .and X102 (.and X107 (.and X108 X106))
abbrev X110 : E := .and X104 X109
abbrev X111 : E := .and X103 X110
abbrev X112 : E := .and X74 X111
abbrev X113 : E := .and X76 X112
abbrev X114 : E := .and X75 X113
abbrev X115 : E := .and X70 X114
abbrev X116 : E := .and X72 X115
abbrev X117 : E := .and X71 X116
abbrev X118 : E := .and X67 X117
abbrev X119 : E := .and X69 X118
abbrev X120 : E := .and X68 X119
abbrev X121 : E := .and X48 X120
abbrev X122 : E := .and X50 X121
abbrev X123 : E := .and X49 X122
abbrev X124 : E := .and X31 X123
abbrev X125 : E := .and X33 X124
abbrev X126 : E := .and X32 X125
abbrev X127 : E := .and X17 X126
abbrev X128 : E := .and X19 X127
abbrev X129 : E := .and X18 X128
abbrev X130 : E := .and X13 X129
abbrev X131 : E := .and X15 X130
abbrev X132 : E := .and X14 X131
abbrev X133 : E := .and X2 X132
abbrev X134 : E := .and X8 X133
abbrev X135 : E := .and X7 X134
abbrev X136 : E := .and X6 X135
abbrev X137 : E := .and X5 X136
abbrev X138 : E := .and X4 X137
abbrev X139 : E := .and X3 X138
abbrev X140 : E := .var 46
abbrev X141 : E := .cmp .eql X140 (.fn 0 (.var 45))
abbrev X142 : E := .not (.cmp .lss (.fn 6 (.pr X105 (.fn 8 (.pr (.int 10) (.fn 6 (.pr (.int 1) (.fn 8 (.pr (.int 12) (.fn 9 (.pr (.fn 1 (.pr X0 (.int 22))) (.int 12))))))))))) X140)
abbrev X143 : E := .not (.cmp .lss X140 X105)
abbrev X144 : E := .and X106 (.and X142 (.and X143 X141))
abbrev X145 : E := .and X108 X144
abbrev X146 : E := .and X107 X145
abbrev X147 : E := .and X102 X146
abbrev X148 : E := .and X104 X147
abbrev X149 : E := .and X103 X148
abbrev X150 : E := .and X74 X149
abbrev X151 : E := .and X76 X150
abbrev X152 : E := .and X75 X151
abbrev X153 : E := .and X70 X152
abbrev X154 : E := .and X72 X153
abbrev X155 : E := .and X71 X154
abbrev X156 : E := .and X67 X155
abbrev X157 : E := .and X69 X156
abbrev X158 : E := .and X68 X157
abbrev X159 : E := .and X48 X158
abbrev X160 : E := .and X50 X159
abbrev X161 : E := .and X49 X160
abbrev X162 : E := .and X31 X161
abbrev X163 : E := .and X33 X162
abbrev X164 : E := .and X32 X163
abbrev X165 : E := .and X17 X164
abbrev X166 : E := .and X19 X165
abbrev X167 : E := .and X18 X166
abbrev X168 : E := .and X13 X167
abbrev X169 : E := .and X15 X168
abbrev X170 : E := .and X14 X169
abbrev X171 : E := .and X2 X170
abbrev X172 : E := .and X8 X171
abbrev X173 : E := .and X7 X172
abbrev X174 : E := .and X6 X173
abbrev X175 : E := .and X5 X174
abbrev X176 : E := .and X4 X175
abbrev X177 : E := .and X3 X176
abbrev X178 : E := .var 50
abbrev X179 : E := .cmp .eql X178 (.fn 0 (.var 49))
abbrev X180 : E := .not (.cmp .lss (.fn 6 (.pr X140 (.fn 8 (.pr (.int 10) (.fn 6 (.pr (.int 1) (.fn 8 (.pr (.int 12) (.fn 9 (.pr (.fn 1 (.pr X0 (.int 23))) (.int 12))))))))))) X178)
abbrev X181 : E := .not (.cmp .lss X178 X140)
abbrev X182 : E := .and X141 (.and X180 (.and X181 X179))
abbrev X183 : E := .and X143 X182
abbrev X184 : E := .and X142 X183
abbrev X185 : E := .and X106 X184
abbrev X186 : E := .and X108 X185
abbrev X187 : E := .and X107 X186
abbrev X188 : E := .and X102 X187
abbrev X189 : E := .and X104 X188
abbrev X190 : E := .and X103 X189
abbrev X191 : E := .and X74 X190
abbrev X192 : E := .and X76 X191
abbrev X193 : E := .and X75 X192
abbrev X194 : E := .and X70 X193
abbrev X195 : E := .and X72 X194
abbrev X196 : E := .and X71 X195
abbrev X197 : E := .and X67 X196
abbrev X198 : E := .and X69 X197
abbrev X199 : E := .and X68 X198
abbrev X200 : E := .and X48 X199
abbrev X201 : E := .and X50 X200
abbrev X202 : E := .and X49 X201
abbrev X203 : E := .and X31 X202
abbrev X204 : E := .and X33 X203
abbrev X205 : E := .and X32 X204
abbrev X206 : E := .and X17 X205
abbrev X207 : E := .and X19 X206
abbrev X208 : E := .and X18 X207
abbrev X209 : E := .and X13 X208
abbrev X210 : E := .and X15 X209
abbrev X211 : E := .and X14 X210
abbrev X212 : E := .and X2 X211
abbrev X213 : E := .and X8 X212
abbrev X214 : E := .and X7 X213
abbrev X215 : E := .and X6 X214
abbrev X216 : E := .and X5 X215
abbrev X217 : E := .and X4 X216
abbrev X218 : E := .and X3 X217
abbrev X219 : E := .cmp .eql (.var 54) (.fn 0 (.var 53))
abbrev X220 : E := .not (.cmp .lss (.fn 6 (.pr X178 (.fn 8 (.pr (.int 10) (.int 3))))) (.var 54))
abbrev X221 : E := .not (.cmp .lss (.var 54) X178)
abbrev X222 : E := .var 58
abbrev X223 : E := .cmp .eql X222 (.fn 0 (.var 57))
abbrev X224 : E := .not (.cmp .lss (.fn 6 (.pr (.var 54) (.fn 8 (.pr (.int 10) (.int 2))))) X222)
abbrev X225 : E := .not (.cmp .lss X222 (.var 54))
abbrev X226 : E := .and X219 (.and X224 (.and X225 X223))
abbrev X227 : E := .and X221 X226
abbrev X228 : E := .and X220 X227
abbrev X229 : E := .and X179 X228
abbrev X230 : E := .and X181 X229
abbrev X231 : E := .and X180 X230
abbrev X232 : E := .and X141 X231
abbrev X233 : E := .and X143 X232
abbrev X234 : E := .and X142 X233
abbrev X235 : E := .and X106 X234
abbrev X236 : E := .and X108 X235
abbrev X237 : E := .and X107 X236
abbrev X238 : E := .and X102 X237
abbrev X239 : E := .and X104 X238
abbrev X240 : E := .and X103 X239
abbrev X241 : E := .and X74 X240
abbrev X242 : E := .and X76 X241
abbrev X243 : E := .and X75 X242
abbrev X244 : E := .and X70 X243
abbrev X245 : E := .and X72 X244
abbrev X246 : E := .and X71 X245
abbrev X247 : E := .and X67 X246
abbrev X248 : E := .and X69 X247
abbrev X249 : E := .and X68 X248
abbrev X250 : E := .and X48 X249
abbrev X251 : E := .and X50 X250
abbrev X252 : E := .and X49 X251
abbrev X253 : E := .and X31 X252
abbrev X254 : E := .and X33 X253
abbrev X255 : E := .and X32 X254
abbrev X256 : E := .and X17 X255
abbrev X257 : E := .and X19 X256
abbrev X258 : E := .and X18 X257
abbrev X259 : E := .and X13 X258
abbrev X260 : E := .and X15 X259
abbrev X261 : E := .and X14 X260
abbrev X262 : E := .and X2 X261
abbrev X263 : E := .and X8 X262
abbrev X264 : E := .and X7 X263
abbrev X265 : E := .and X6 X264
abbrev X266 : E := .and X5 X265
abbrev X267 : E := .and X4 X266
abbrev X268 : E := .and X3 X267
abbrev X269 : E := .var 62
abbrev X270 : E := .cmp .eql X269 (.fn 0 (.var 61))
abbrev X271 : E := .not (.cmp .lss (.fn 6 (.pr X222 (.fn 8 (.pr (.int 10) (.fn 6 (.pr (.int 1) (.fn 8 (.pr (.int 12) (.fn 9 (.pr (.fn 1 (.pr X0 (.int 29))) (.int 12))))))))))) X269)
abbrev X272 : E := .not (.cmp .lss X269 X222)
abbrev X273 : E := .and X223 (.and X271 (.and X272 X270))
abbrev X274 : E := .and X225 X273
abbrev X275 : E := .and X224 X274
abbrev X276 : E := .and X219 X275
abbrev X277 : E := .and X221 X276
abbrev X278 : E := .and X220 X277
abbrev X279 : E := .and X179 X278
abbrev X280 : E := .and X181 X279
abbrev X281 : E := .and X180 X280
abbrev X282 : E := .and X141 X281
abbrev X283 : E := .and X143 X282
abbrev X284 : E := .and X142 X283
abbrev X285 : E := .and X106 X284
abbrev X286 : E := .and X108 X285
abbrev X287 : E := .and X107 X286
abbrev X288 : E := .and X102 X287
abbrev X289 : E := .and X104 X288
abbrev X290 : E := .and X103 X289
abbrev X291 : E := .and X74 X290
abbrev X292 : E := .and X76 X291
abbrev X293 : E := .and X75 X292
abbrev X294 : E := .and X70 X293
abbrev X295 : E := .and X72 X294
abbrev X296 : E := .and X71 X295
abbrev X297 : E := .and X67 X296
abbrev X298 : E := .and X69 X297
abbrev X299 : E := .and X68 X298
abbrev X300 : E := .and X48 X299
abbrev X301 : E := .and X50 X300
abbrev X302 : E := .and X49 X301
abbrev X303 : E := .and X31 X302
abbrev X304 : E := .and X33 X303
abbrev X305 : E := .and X32 X304
abbrev X306 : E := .and X17 X305
abbrev X307 : E := .and X19 X306
abbrev X308 : E := .and X18 X307
abbrev X309 : E := .and X13 X308
abbrev X310 : E := .and X15 X309
abbrev X311 : E := .and X14 X310
abbrev X312 : E := .and X2 X311
abbrev X313 : E := .and X8 X312
abbrev X314 : E := .and X7 X313
abbrev X315 : E := .and X6 X314
abbrev X316 : E := .and X5 X315
abbrev X317 : E := .and X4 X316
abbrev X318 : E := .and X3 X317
abbrev X319 : E := .var 66
abbrev X320 : E := .cmp .eql X319 (.fn 0 (.var 65))
abbrev X321 : E := .cmp .lss (.fn 6 (.pr X269 (.fn 8 (.pr (.int 10) (.fn 6 (.pr (.int 1) (.fn 6 (.pr (.fn 8 (.pr (.int 5) (.fn 9 (.pr (.fn 1 (.pr X0 (.int 30))) (.int 5))))) (.fn 8 (.pr (.int 2) (.fn 114 (.pr (.fn 1 (.pr X0 (.int 30))) (.fn 9 (.pr (.fn 1 (.pr X0 (.int 30))) (.int 5))))))))))))))) X319
abbrev X322 : E := .not X321
abbrev X323 : E := .cmp .lss X319 X269
abbrev X324 : E := .not X323
abbrev X325 : E := .and X324 X320
abbrev X326 : E := .and X322 X325
abbrev X327 : E := .and X270 X326
abbrev X328 : E := .and X272 X327
abbrev X329 : E := .and X271 X328
abbrev X330 : E := .and X223 X329
abbrev X331 : E := .and X225 X330
abbrev X332 : E := .and X224 X331
abbrev X333 : E := .and X219 X332
abbrev X334 : E := .and X221 X333
abbrev X335 : E := .and X220 X334
abbrev X336 : E := .and X179 X335
abbrev X337 : E := .and X181 X336
abbrev X338 : E := .and X180 X337
abbrev X339 : E := .and X141 X338
abbrev X340 : E := .and X143 X339
abbrev X341 : E := .and X142 X340
abbrev X342 : E := .and X106 X341
abbrev X343 : E := .and X108 X342
abbrev X344 : E := .and X107 X343
abbrev X345 : E := .and X102 X344
abbrev X346 : E := .and X104 X345
abbrev X347 : E := .and X103 X346
abbrev X348 : E := .and X74 X347
abbrev X349 : E := .and X76 X348
abbrev X350 : E := .and X75 X349
abbrev X351 : E := .and X70 X350
abbrev X352 : E := .and X72 X351
abbrev X353 : E := .and X71 X352
abbrev X354 : E := .and X67 X353
abbrev X355 : E := .and X69 X354
abbrev X356 : E := .and X68 X355
abbrev X357 : E := .and X48 X356
abbrev X358 : E := .and X50 X357
abbrev X359 : E := .and X49 X358
abbrev X360 : E := .and X31 X359
abbrev X361 : E := .and X33 X360
abbrev X362 : E := .and X32 X361
abbrev X363 : E := .and X17 X362
abbrev X364 : E := .and X19 X363
abbrev X365 : E := .and X18 X364
abbrev X366 : E := .and X13 X365
abbrev X367 : E := .and X15 X366
abbrev X368 : E := .and X14 X367
abbrev X369 : E := .and X2 X368
abbrev X370 : E := .and X8 X369
abbrev X371 : E := .and X7 X370
abbrev X372 : E := .and X6 X371
abbrev X373 : E := .and X5 X372
abbrev X374 : E := .and X4 X373
abbrev X375 : E := .and X3 X374
abbrev X376 : E := .var 70
abbrev X377 : E := .cmp .eql X376 (.fn 0 (.var 69))
abbrev X378 : E := .cmp .lss (.fn 6 (.pr X319 (.fn 8 (.pr (.int 10) (.fn 6 (.pr (.int 1) (.fn 6 (.pr (.fn 8 (.pr (.int 5) (.fn 9 (.pr (.fn 1 (.pr X0 (.int 31))) (.int 5))))) (.fn 8 (.pr (.int 2) (.fn 114 (.pr (.fn 1 (.pr X0 (.int 31))) (.fn 9 (.pr (.fn 1 (.pr X0 (.int 31))) (.int 5))))))))))))))) X376
abbrev X379 : E := .not X378
abbrev X380 : E := .cmp .lss X376 X319
abbrev X381 : E := .not X380
abbrev X382 : E := .and X381 X377
abbrev X383 : E := .and X379 X382
abbrev X384 : E := .and X320 X383
abbrev X385 : E := .and X324 X384
abbrev X386 : E := .and X322 X385
abbrev X387 : E := .and X270 X386
abbrev X388 : E := .and X272 X387
abbrev X389 : E := .and X271 X388
abbrev X390 : E := .and X223 X389
abbrev X391 : E := .and X225 X390
abbrev X392 : E := .and X224 X391
abbrev X393 : E := .and X219 X392
abbrev X394 : E := .and X221 X393
abbrev X395 : E := .and X220 X394
abbrev X396 : E := .and X179 X395
abbrev X397 : E := .and X181 X396
abbrev X398 : E := .and X180 X397
abbrev X399 : E := .and X141 X398
abbrev X400 : E := .and X143 X399
abbrev X401 : E := .and X142 X400
abbrev X402 : E := .and X106 X401
abbrev X403 : E := .and X108 X402
abbrev X404 : E := .and X107 X403
abbrev X405 : E := .and X102 X404
abbrev X406 : E := .and X104 X405
abbrev X407 : E := .and X103 X406
abbrev X408 : E := .and X74 X407
abbrev X409 : E := .and X76 X408
abbrev X410 : E := .and X75 X409
abbrev X411 : E := .and X70 X410
abbrev X412 : E := .and X72 X411
abbrev X413 : E := .and X71 X412
abbrev X414 : E := .and X67 X413
abbrev X415 : E := .and X69 X414
abbrev X416 : E := .and X68 X415
abbrev X417 : E := .and X48 X416
abbrev X418 : E := .and X50 X417
abbrev X419 : E := .and X49 X418
abbrev X420 : E := .and X31 X419
abbrev X421 : E := .and X33 X420
abbrev X422 : E := .and X32 X421
abbrev X423 : E := .and X17 X422
abbrev X424 : E := .and X19 X423
abbrev X425 : E := .and X18 X424
abbrev X426 : E := .and X13 X425
abbrev X427 : E := .and X15 X426
abbrev X428 : E := .and X14 X427
abbrev X429 : E := .and X2 X428
abbrev X430 : E := .and X8 X429
abbrev X431 : E := .and X7 X430
abbrev X432 : E := .and X6 X431
abbrev X433 : E := .and X5 X432
abbrev X434 : E := .and X4 X433
abbrev X435 : E := .and X3 X434
abbrev X436 : E := .var 74
abbrev X437 : E := .cmp .eql X436 (.fn 0 (.var 73))
abbrev X438 : E := .cmp .lss (.fn 6 (.pr X376 (.fn 8 (.pr (.int 10) (.int 1))))) X436
abbrev X439 : E := .not X438
abbrev X440 : E := .cmp .lss X436 X376
abbrev X441 : E := .not X440
abbrev X442 : E := .and X441 X437
abbrev X443 : E := .and X439 X442
abbrev X444 : E := .and X377 X443
abbrev X445 : E := .and X381 X444
abbrev X446 : E := .and X379 X445
abbrev X447 : E := .and X320 X446
abbrev X448 : E := .and X324 X447
abbrev X449 : E := .and X322 X448
abbrev X450 : E := .and X270 X449
abbrev X451 : E := .and X272 X450
abbrev X452 : E := .and X271 X451
abbrev X453 : E := .and X223 X452
abbrev X454 : E := .and X225 X453
abbrev X455 : E := .and X224 X454
abbrev X456 : E := .and X219 X455
abbrev X457 : E := .and X221 X456
abbrev X458 : E := .and X220 X457
abbrev X459 : E := .and X179 X458
abbrev X460 : E := .and X181 X459
abbrev X461 : E := .and X180 X460
abbrev X462 : E := .and X141 X461
abbrev X463 : E := .and X143 X462
abbrev X464 : E := .and X142 X463
abbrev X465 : E := .and X106 X464
abbrev X466 : E := .and X108 X465
abbrev X467 : E := .and X107 X466
abbrev X468 : E := .and X102 X467
abbrev X469 : E := .and X104 X468
abbrev X470 : E := .and X103 X469
abbrev X471 : E := .and X74 X470
abbrev X472 : E := .and X76 X471
abbrev X473 : E := .and X75 X472
abbrev X474 : E := .and X70 X473
abbrev X475 : E := .and X72 X474
abbrev X476 : E := .and X71 X475
abbrev X477 : E := .and X67 X476
abbrev X478 : E := .and X69 X477
abbrev X479 : E := .and X68 X478
abbrev X480 : E := .and X48 X479
abbrev X481 : E := .and X50 X480
abbrev X482 : E := .and X49 X481
abbrev X483 : E := .and X31 X482
abbrev X484 : E := .and X33 X483
abbrev X485 : E := .and X32 X484
abbrev X486 : E := .and X17 X485
abbrev X487 : E := .and X19 X486
abbrev X488 : E := .and X18 X487
abbrev X489 : E := .and X13 X488
abbrev X490 : E := .and X15 X489
abbrev X491 : E := .and X14 X490
abbrev X492 : E := .and X2 X491
abbrev X493 : E := .and X8 X492
abbrev X494 : E := .and X7 X493
abbrev X495 : E := .and X6 X494
abbrev X496 : E := .and X5 X495
abbrev X497 : E := .and X4 X496
abbrev X498 : E := .and X3 X497
abbrev X499 : E := .var 78
abbrev X500 : E := .cmp .eql X499 (.fn 0 (.var 77))
abbrev X501 : E := .cmp .lss (.fn 6 (.pr X436 (.fn 8 (.pr (.int 10) (.fn 0 (.fn 1 (.pr X0 (.int 32)))))))) X499
abbrev X502 : E := .not X501
abbrev X503 : E := .cmp .lss X499 X436
abbrev X504 : E := .not X503
abbrev X505 : E := .and X504 X500
abbrev X506 : E := .and X502 X505
abbrev X507 : E := .and X437 X506
abbrev X508 : E := .and X441 X507
abbrev X509 : E := .and X439 X508
abbrev X510 : E := .and X377 X509
abbrev X511 : E := .and X381 X510
abbrev X512 : E := .and X379 X511
abbrev X513 : E := .and X320 X512
abbrev X514 : E := .and X324 X513
abbrev X515 : E := .and X322 X514
abbrev X516 : E := .and X270 X515
abbrev X517 : E := .and X272 X516
abbrev X518 : E := .and X271 X517
abbrev X519 : E := .and X223 X518
abbrev X520 : E := .and X225 X519
abbrev X521 : E := .and X224 X520
abbrev X522 : E := .and X219 X521
abbrev X523 : E := .and X221 X522
abbrev X524 : E := .and X220 X523
abbrev X525 : E := .and X179 X524
abbrev X526 : E := .and X181 X525
abbrev X527 : E := .and X180 X526
abbrev X528 : E := .and X141 X527
abbrev X529 : E := .and X143 X528
abbrev X530 : E := .and X142 X529
abbrev X531 : E := .and X106 X530
abbrev X532 : E := .and X108 X531
abbrev X533 : E := .and X107 X532
abbrev X534 : E := .and X102 X533
abbrev X535 : E := .and X104 X534
abbrev X536 : E := .and X103 X535
abbrev X537 : E := .and X74 X536
abbrev X538 : E := .and X76 X537
abbrev X539 : E := .and X75 X538
abbrev X540 : E := .and X70 X539
abbrev X541 : E := .and X72 X540
abbrev X542 : E := .and X71 X541
abbrev X543 : E := .and X67 X542
abbrev X544 : E := .and X69 X543
abbrev X545 : E := .and X68 X544
abbrev X546 : E := .and X48 X545
abbrev X547 : E := .and X50 X546
abbrev X548 : E := .and X49 X547
abbrev X549 : E := .and X31 X548
abbrev X550 : E := .and X33 X549
abbrev X551 : E := .and X32 X550
abbrev X552 : E := .and X17 X551
abbrev X553 : E := .and X19 X552
abbrev X554 : E := .and X18 X553
abbrev X555 : E := .and X13 X554
abbrev X556 : E := .and X15 X555
abbrev X557 : E := .and X14 X556
abbrev X558 : E := .and X2 X557
abbrev X559 : E := .and X8 X558
abbrev X560 : E := .and X7 X559
abbrev X561 : E := .and X6 X560
abbrev X562 : E := .and X5 X561
abbrev X563 : E := .and X4 X562
abbrev X564 : E := .and X3 X563
abbrev X565 : E := .var 82
abbrev X566 : E := .cmp .lss (.fn 6 (.pr X499 (.fn 8 (.pr (.int 10) (.int 1))))) X565
abbrev X567 : E := .not X566
abbrev X568 : E := .cmp .eql X565 (.fn 0 (.var 81))
abbrev X569 : E := .and (.not (.cmp .lss X565 X499)) X568
abbrev X570 : E := .and X567 X569
abbrev X571 : E := .and X500 X570
abbrev X572 : E := .and X504 X571
abbrev X573 : E := .and X502 X572
abbrev X574 : E := .and X437 X573
abbrev X575 : E := .and X441 X574
abbrev X576 : E := .and X439 X575
abbrev X577 : E := .and X377 X576
abbrev X578 : E := .and X381 X577
abbrev X579 : E := .and X379 X578
abbrev X580 : E := .and X320 X579
abbrev X581 : E := .and X324 X580
abbrev X582 : E := .and X322 X581
abbrev X583 : E := .and X270 X582
abbrev X584 : E := .and X272 X583
abbrev X585 : E := .and X271 X584
abbrev X586 : E := .and X223 X585
abbrev X587 : E := .and X225 X586
abbrev X588 : E := .and X224 X587
abbrev X589 : E := .and X219 X588
abbrev X590 : E := .and X221 X589
abbrev X591 : E := .and X220 X590
abbrev X592 : E := .and X179 X591
abbrev X593 : E := .and X181 X592
abbrev X594 : E := .and X180 X593
abbrev X595 : E := .and X141 X594
abbrev X596 : E := .and X143 X595
abbrev X597 : E := .and X142 X596
abbrev X598 : E := .and X106 X597
abbrev X599 : E := .and X108 X598
abbrev X600 : E := .and X107 X599
abbrev X601 : E := .and X102 X600
abbrev X602 : E := .and X104 X601
abbrev X603 : E := .and X103 X602
abbrev X604 : E := .and X74 X603
abbrev X605 : E := .and X76 X604
abbrev X606 : E := .and X75 X605
abbrev X607 : E := .and X70 X606
abbrev X608 : E := .and X72 X607
abbrev X609 : E := .and X71 X608
abbrev X610 : E := .and X67 X609
abbrev X611 : E := .and X69 X610
abbrev X612 : E := .and X68 X611
abbrev X613 : E := .and X48 X612
abbrev X614 : E := .and X50 X613
abbrev X615 : E := .and X49 X614
abbrev X616 : E := .and X31 X615
abbrev X617 : E := .and X33 X616
abbrev X618 : E := .and X32 X617
abbrev X619 : E := .and X17 X618
abbrev X620 : E := .and X19 X619
abbrev X621 : E := .and X18 X620
abbrev X622 : E := .and X13 X621
abbrev X623 : E := .and X15 X622
abbrev X624 : E := .and X14 X623
abbrev X625 : E := .and X2 X624
abbrev X626 : E := .and X8 X625
abbrev X627 : E := .and X7 X626
abbrev X628 : E := .and X6 X627
abbrev X629 : E := .and X5 X628
abbrev X630 : E := .and X4 X629
abbrev X631 : E := .and X3 X630
abbrev X632 : E := .var 260
abbrev X633 : E := .var 257
abbrev X634 : E := .not (.cmp .lss (.fn 6 (.pr (.int 60000) (.fn 8 (.pr (.int 20) X632)))) X633)
abbrev X635 : E := .cmp .eql X633 (.fn 0 (.var 256))
abbrev X636 : E := .cmp .lss X632 (.int 0)
abbrev X637 : E := .not X636
abbrev X638 : E := .cmp .lss X632 (.fn 9 (.pr (.fn 1 (.pr X0 (.int 33))) (.int 2)))
abbrev X639 : E := .and X637 (.and X3 X638)
abbrev X640 : E := .cmp .lss (.fn 9 (.pr (.fn 1 (.pr X0 (.int 33))) (.int 2))) X632
abbrev X641 : E := .not X640
abbrev X642 : E := .not X638
abbrev X643 : E := .pr (.var 259) (.pr X0 (.pr (.int 33) X632))
abbrev X644 : E := .pr (.var 256) X643
abbrev X645 : E := .fn 108 X644
abbrev X646 : E := .ar .add .i64 X632 (.int 1)
abbrev X647 : E := .var 262
abbrev X648 : E := .cmp .eql X647 (.fn 0 (.var 261))
abbrev X649 : E := .cmp .lss X633 (.int 1)
abbrev X650 : E := .not X649
abbrev X651 : E := .cmp .lss (.fn 6 (.pr X633 (.fn 8 (.pr (.int 10) (.int 8))))) X647
abbrev X652 : E := .not X651
abbrev X653 : E := .cmp .lss X647 X633
abbrev X654 : E := .not X653
abbrev X655 : E := .and X654 X648
abbrev X656 : E := .and X652 X655
abbrev X657 : E := .and X642 X656
abbrev X658 : E := .and X3 X657
abbrev X659 : E := .and X641 X658
abbrev X660 : E := .and X635 X659
abbrev X661 : E := .and X650 X660
abbrev X662 : E := .and X634 X661
abbrev X663 : E := .cmp .lss (.fn 6 (.pr X633 (.fn 8 (.pr (.int 10) (.int 2))))) X647
abbrev X664 : E := .not X663
abbrev X665 : E := .and X664 X655
abbrev X666 : E := .and X638 X665
abbrev X667 : E := .and X3 X666
abbrev X668 : E := .and X637 X667
abbrev X669 : E := .and X635 X668
abbrev X670 : E := .var 266
abbrev X671 : E := .cmp .lss (.fn 6 (.pr X647 (.fn 8 (.pr (.int 10) (.int 1))))) X670
abbrev X672 : E := .not X671
abbrev X673 : E := .cmp .eql X670 (.fn 0 (.var 265))
abbrev X674 : E := .and (.not (.cmp .lss X670 X647)) X673
abbrev X675 : E := .and X672 X674
abbrev X676 : E := .and X648 X675
abbrev X677 : E := .and X654 X676
abbrev X678 : E := .and X652 X677
abbrev X679 : E := .and X642 X678
abbrev X680 : E := .and X3 X679
abbrev X681 : E := .and X641 X680
abbrev X682 : E := .and X635 X681
abbrev X683 : E := .and X650 X682
abbrev X684 : E := .and X634 X683
abbrev X685 : E := .var 324
abbrev X686 : E := .var 321
abbrev X687 : E := .cmp .lss (.fn 6 (.pr (.int 70000) (.fn 8 (.pr (.int 30) X685)))) X686
abbrev X688 : E := .not X687
abbrev X689 : E := .cmp .eql X686 (.fn 0 (.var 320))
abbrev X690 : E := .cmp .lss X685 (.int 0)
abbrev X691 : E := .not X690
abbrev X692 : E := .cmp .lss X685 (.fn 9 (.pr (.fn 1 (.pr X0 (.int 42))) (.int 3)))
abbrev X693 : E := .and X691 (.and X3 X692)
abbrev X694 : E := .cmp .lss (.fn 9 (.pr (.fn 1 (.pr X0 (.int 42))) (.int 3))) X685
abbrev X695 : E := .not X694
abbrev X696 : E := .pr (.var 323) (.pr X0 (.pr (.int 42) X685))
abbrev X697 : E := .pr (.var 320) X696
abbrev X698 : E := .fn 108 X697
abbrev X699 : E := .ar .add .i64 X685 (.int 1)
abbrev X700 : E := .var 326
abbrev X701 : E := .cmp .lss (.fn 6 (.pr X686 (.fn 8 (.pr (.int 10) (.int 3))))) X700
abbrev X702 : E := .not X701
abbrev X703 : E := .cmp .eql X700 (.fn 0 (.var 325))
abbrev X704 : E := .and (.not (.cmp .lss X700 X686)) X703
abbrev X705 : E := .and X702 X704
abbrev X706 : E := .and X692 X705
abbrev X707 : E := .and X3 X706
abbrev X708 : E := .and X691 X707
abbrev X709 : E := .and X689 X708
namespace p8
def f0 : E := (.imp X1 (.fn 118 (.pr (.int 0) (.fn 23 (.pr (.fn 1 (.pr X0 (.int 0))) (.fn 10 (.int 0)))))))
theorem fact0 (ρ : Env) : E.B ρ f0 = true := by
  unfold f0
  rw [sm_B_imp]
  intro p0
  exact (ty0_c (v3 p0 0 rfl rfl) ty0_nil)
def f1 : E := (.imp X1 (.fn 118 (.pr (.int 0) (.fn 23 (.pr (.fn 1 (.pr X0 (.int 1))) (.fn 10 (.int 0)))))))
theorem fact1 (ρ : Env) : E.B ρ f1 = true := by
  unfold f1
  rw [sm_B_imp]
  intro p0
  exact (ty0_c (v3 p0 1 rfl rfl) ty0_nil)
def f2 : E := (.imp X2 (.not (.cmp .lss (.var 6) (.int 0))))
theorem fact2 (ρ : Env) : E.B ρ f2 = true := by
  unfold f2
  rw [sm_B_imp]
  intro p0
  try simp only [smZ] at *
  have n2 := @fn0_nn ρ (.var 5)
  omega
def f3 : E := (.imp X12 (.not (.cmp .lss (.int 2000000) (.var 6))))
theorem fact3 (ρ : Env) : E.B ρ f3 = true := by
  unfold f3
  rw [sm_B_imp]
  simp only [sm_B_and]
  rintro ⟨p0, p1, p2, p3, p4, p5, p6⟩
  try simp only [smZ] at *
  omega
def f4 : E := (.imp X12 (.not (.cmp .lss (.var 6) (.int 1))))
theorem fact4 (ρ : Env) : E.B ρ f4 = true := by
  unfold f4
  rw [sm_B_imp]
  simp only [sm_B_and]
  rintro ⟨p0, p1, p2, p3, p4, p5, p6⟩
  try simp only [smZ] at *
  omega
def f5 : E := (.imp X1 (.fn 118 (.pr (.int 0) (.fn 23 (.pr (.fn 1 (.pr X0 (.int 2))) (.fn 23 (.pr (.fn 1 (.pr X0 (.int 3))) (.fn 23 (.pr (.fn 1 (.pr X0 (.int 4))) (.fn 23 (.pr (.fn 1 (.pr X0 (.int 5))) (.fn 10 (.int 0)))))))))))))
theorem fact5 (ρ : Env) : E.B ρ f5 = true := by
  unfold f5
  rw [sm_B_imp]
  intro p0
  exact (ty0_c (v3 p0 2 rfl rfl) (ty0_c (v3 p0 3 rfl rfl) (ty0_c (v3 p0 4 rfl rfl) (ty0_c (v3 p0 5 rfl rfl) ty0_nil))))
def f6 : E := (.imp X13 (.not (.cmp .lss (.var 10) (.int 0))))
theorem fact6 (ρ : Env) : E.B ρ f6 = true := by
  unfold f6
  rw [sm_B_imp]
  intro p0
  try simp only [smZ] at *
  have n2 := @fn0_nn ρ (.var 9)
  omega
def f7 : E := (.imp (.and X3 (.and X4 (.and X5 (.and X6 (.and X7 (.and X8 (.and X2 (.and X14 (.and X15 X13))))))))) (.not (.cmp .lss (.int 2000000) (.var 10))))
theorem fact7 (ρ : Env) : E.B ρ f7 = true := by
  unfold f7
  rw [sm_B_imp]
  simp only [sm_B_and]
  rintro ⟨p0, p1, p2, p3, p4, p5, p6, p7, p8, p9⟩
  try simp only [smZ] at *
  omega
def f8 : E := (.imp X1 (.fn 118 (.pr (.int 0) (.fn 23 (.pr (.fn 1 (.pr X0 (.int 6))) (.fn 23 (.pr (.fn 1 (.pr X0 (.int 7))) (.fn 10 (.int 0)))))))))
theorem fact8 (ρ : Env) : E.B ρ f8 = true := by
  unfold f8
  rw [sm_B_imp]
  intro p0
  exact (ty0_c (v3 p0 6 rfl rfl) (ty0_c (v3 p0 7 rfl rfl) ty0_nil))
def f9 : E := (.imp X17 (.not (.cmp .lss X16 (.int 0))))
theorem fact9 (ρ : Env) : E.B ρ f9 = true := by
  unfold f9
  rw [sm_B_imp]
  intro p0
  try simp only [smZ] at *
  have n2 := @fn0_nn ρ (.var 13)
  omega
def f10 : E := (.imp X29 (.not (.cmp .lss (.int 500000) X16)))
theorem fact10 (ρ : Env) : E.B ρ f10 = true := by
  unfold f10
  rw [sm_B_imp]
  simp only [sm_B_and]
  rintro ⟨p0, p1, p2, p3, p4, p5, p6, p7, p8, p9, p10, p11, p12⟩
  try simp only [smZ] at *
  omega
def f11 : E := (.imp X29 (.not (.cmp .lss X16 (.int 1))))
theorem fact11 (ρ : Env) : E.B ρ f11 = true := by
  unfold f11
  rw [sm_B_imp]
  simp only [sm_B_and]
  rintro ⟨p0, p1, p2, p3, p4, p5, p6, p7, p8, p9, p10, p11, p12⟩
  try simp only [smZ] at *
  omega
def f12 : E := (.imp X1 (.fn 118 (.pr (.int 1) (.fn 1 (.pr X0 (.int 8))))))
theorem fact12 (ρ : Env) : E.B ρ f12 = true := by
  unfold f12
  rw [sm_B_imp]
  intro p0
  exact vl p0 8 rfl
def f13 : E := (.imp X3 (.not (.cmp .lss (.int 1000) (.fn 9 (.pr (.fn 1 (.pr X0 (.int 8))) (.int 12))))))
theorem fact13 (ρ : Env) : E.B ρ f13 = true := by
  unfold f13
  rw [sm_B_imp]
  intro p0
  try simp only [smZ] at *
  omega
def f14 : E := (.imp X31 (.not (.cmp .lss X30 (.int 0))))
theorem fact14 (ρ : Env) : E.B ρ f14 = true := by
  unfold f14
  rw [sm_B_imp]
  intro p0
  try simp only [smZ] at *
  have n2 := @fn0_nn ρ (.var 17)
  omega
def f15 : E := (.imp X46 (.not (.cmp .lss (.int 500000) X30)))
theorem fact15 (ρ : Env) : E.B ρ f15 = true := by
  unfold f15
  rw [sm_B_imp]
  simp only [sm_B_and]
  rintro ⟨p0, p1, p2, p3, p4, p5, p6, p7, p8, p9, p10, p11, p12, p13, p14, p15⟩
  try simp only [smZ] at *
  omega
def f16 : E := (.imp X46 (.not (.cmp .lss X30 (.int 1))))
theorem fact16 (ρ : Env) : E.B ρ f16 = true := by
  unfold f16
  rw [sm_B_imp]
  simp only [sm_B_and]
  rintro ⟨p0, p1, p2, p3, p4, p5, p6, p7, p8, p9, p10, p11, p12, p13, p14, p15⟩
  try simp only [smZ] at *
  omega
def f17 : E := (.imp X1 (.fn 118 (.pr (.int 1) (.fn 1 (.pr X0 (.int 9))))))
theorem fact17 (ρ : Env) : E.B ρ f17 = true := by
  unfold f17
  rw [sm_B_imp]
  intro p0
  exact vl p0 9 rfl
def f18 : E := (.imp X3 (.not (.cmp .lss (.int 1000) (.fn 9 (.pr (.fn 1 (.pr X0 (.int 9))) (.int 12))))))
theorem fact18 (ρ : Env) : E.B ρ f18 = true := by
  unfold f18
  rw [sm_B_imp]
  intro p0
  try simp only [smZ] at *
  omega
def f19 : E := (.imp X48 (.not (.cmp .lss X47 (.int 0))))
theorem fact19 (ρ : Env) : E.B ρ f19 = true := by
  unfold f19
  rw [sm_B_imp]
  intro p0
  try simp only [smZ] at *
  have n2 := @fn0_nn ρ (.var 21)
  omega
def f20 : E := (.imp X66 (.not (.cmp .lss (.int 1000000) X47)))
theorem fact20 (ρ : Env) : E.B ρ f20 = true := by
  unfold f20
  rw [sm_B_imp]
  simp only [sm_B_and]
  rintro ⟨p0, p1, p2, p3, p4, p5, p6, p7, p8, p9, p10, p11, p12, p13, p14, p15, p16, p17, p18⟩
  try simp only [smZ] at *
  omega
def f21 : E := (.imp X66 (.not (.cmp .lss X47 (.int 1))))
theorem fact21 (ρ : Env) : E.B ρ f21 = true := by
  unfold f21
  rw [sm_B_imp]
  simp only [sm_B_and]
  rintro ⟨p0, p1, p2, p3, p4, p5, p6, p7, p8, p9, p10, p11, p12, p13, p14, p15, p16, p17, p18⟩
  try simp only [smZ] at *
  omega
def f22 : E := (.imp X67 (.not (.cmp .lss (.var 26) (.int 0))))
theorem fact22 (ρ : Env) : E.B ρ f22 = true := by
  unfold f22
  rw [sm_B_imp]
  intro p0
  try simp only [smZ] at *
  have n2 := @fn0_nn ρ (.var 25)
  omega
def f23 : E := (.imp (.and X3 (.and X4 (.and X5 (.and X6 (.and X7 (.and X8 (.and X2 (.and X14 (.and X15 (.and X13 (.and X18 (.and X19 (.and X17 (.and X32 (.and X33 (.and X31 (.and X49 (.and X50 (.and X48 (.and X68 (.and X69 X67))))))))))))))))))))) (.not (.cmp .lss (.int 2000000) (.var 26))))
theorem fact23 (ρ : Env) : E.B ρ f23 = true := by
  unfold f23
  rw [sm_B_imp]
  simp only [sm_B_and]
  rintro ⟨p0, p1, p2, p3, p4, p5, p6, p7, p8, p9, p10, p11, p12, p13, p14, p15, p16, p17, p18, p19, p20, p21⟩
  try simp only [smZ] at *
  omega
def f24 : E := (.imp X1 (.fn 118 (.pr (.int 0) (.fn 23 (.pr (.fn 1 (.pr X0 (.int 13))) (.fn 23 (.pr (.fn 1 (.pr X0 (.int 14))) (.fn 10 (.int 0)))))))))
theorem fact24 (ρ : Env) : E.B ρ f24 = true := by
  unfold f24
  rw [sm_B_imp]
  intro p0
  exact (ty0_c (v3 p0 13 rfl rfl) (ty0_c (v3 p0 14 rfl rfl) ty0_nil))
def f25 : E := (.imp X70 (.not (.cmp .lss (.var 30) (.int 0))))
theorem fact25 (ρ : Env) : E.B ρ f25 = true := by
  unfold f25
  rw [sm_B_imp]
  intro p0
  try simp only [smZ] at *
  have n2 := @fn0_nn ρ (.var 29)
  omega
def f26 : E := (.imp (.and X3 (.and X4 (.and X5 (.and X6 (.and X7 (.and X8 (.and X2 (.and X14 (.and X15 (.and X13 (.and X18 (.and X19 (.and X17 (.and X32 (.and X33 (.and X31 (.and X49 (.and X50 (.and X48 (.and X68 (.and X69 (.and X67 (.and X71 (.and X72 X70)))))))))))))))))))))))) (.not (.cmp .lss (.int 2000000) (.var 30))))
theorem fact26 (ρ : Env) : E.B ρ f26 = true := by
  unfold f26
  rw [sm_B_imp]
  simp only [sm_B_and]
  rintro ⟨p0, p1, p2, p3, p4, p5, p6, p7, p8, p9, p10, p11, p12, p13, p14, p15, p16, p17, p18, p19, p20, p21, p22, p23, p24⟩
  try simp only [smZ] at *
  omega
def f27 : E := (.imp X1 (.fn 118 (.pr (.int 0) (.fn 23 (.pr (.fn 1 (.pr X0 (.int 15))) (.fn 10 (.int 0)))))))
theorem fact27 (ρ : Env) : E.B ρ f27 = true := by
  unfold f27
  rw [sm_B_imp]
  intro p0
  exact (ty0_c (v3 p0 15 rfl rfl) ty0_nil)
def f28 : E := (.imp X74 (.not (.cmp .lss X73 (.int 0))))
theorem fact28 (ρ : Env) : E.B ρ f28 = true := by
  unfold f28
  rw [sm_B_imp]
  intro p0
  try simp only [smZ] at *
  have n2 := @fn0_nn ρ (.var 33)
  omega
def f29 : E := (.imp X101 (.not (.cmp .lss (.int 2000000) X73)))
theorem fact29 (ρ : Env) : E.B ρ f29 = true := by
  unfold f29
  rw [sm_B_imp]
  simp only [sm_B_and]
  rintro ⟨p0, p1, p2, p3, p4, p5, p6, p7, p8, p9, p10, p11, p12, p13, p14, p15, p16, p17, p18, p19, p20, p21, p22, p23, p24, p25, p26, p27⟩
  try simp only [smZ] at *
  omega
def f30 : E := (.imp X101 (.not (.cmp .lss X73 (.int 1))))
theorem fact30 (ρ : Env) : E.B ρ f30 = true := by
  unfold f30
  rw [sm_B_imp]
  simp only [sm_B_and]
  rintro ⟨p0, p1, p2, p3, p4, p5, p6, p7, p8, p9, p10, p11, p12, p13, p14, p15, p16, p17, p18, p19, p20, p21, p22, p23, p24, p25, p26, p27⟩
  try simp only [smZ] at *
  omega
def f31 : E := (.imp X1 (.fn 118 (.pr (.int 0) (.fn 23 (.pr (.fn 1 (.pr X0 (.int 16))) (.fn 23 (.pr (.fn 1 (.pr X0 (.int 17))) (.fn 23 (.pr (.fn 1 (.pr X0 (.int 18))) (.fn 23 (.pr (.fn 1 (.pr X0 (.int 19))) (.fn 10 (.int 0)))))))))))))
theorem fact31 (ρ : Env) : E.B ρ f31 = true := by
  unfold f31
  rw [sm_B_imp]
  intro p0
  exact (ty0_c (v3 p0 16 rfl rfl) (ty0_c (v3 p0 17 rfl rfl) (ty0_c (v3 p0 18 rfl rfl) (ty0_c (v3 p0 19 rfl rfl) ty0_nil))))
def f32 : E := (.imp X102 (.not (.cmp .lss (.var 38) (.int 0))))
theorem fact32 (ρ : Env) : E.B ρ f32 = true := by
  unfold f32
  rw [sm_B_imp]
  intro p0
  try simp only [smZ] at *
  have n2 := @fn0_nn ρ (.var 37)
  omega
def f33 : E := (.imp (.and X3 (.and X4 (.and X5 (.and X6 (.and X7 (.and X8 (.and X2 (.and X14 (.and X15 (.and X13 (.and X18 (.and X19 (.and X17 (.and X32 (.and X33 (.and X31 (.and X49 (.and X50 (.and X48 (.and X68 (.and X69 (.and X67 (.and X71 (.and X72 (.and X70 (.and X75 (.and X76 (.and X74 (.and X103 (.and X104 X102)))))))))))))))))))))))))))))) (.not (.cmp .lss (.int 2000000) (.var 38))))
theorem fact33 (ρ : Env) : E.B ρ f33 = true := by
  unfold f33
  rw [sm_B_imp]
  simp only [sm_B_and]
  rintro ⟨p0, p1, p2, p3, p4, p5, p6, p7, p8, p9, p10, p11, p12, p13, p14, p15, p16, p17, p18, p19, p20, p21, p22, p23, p24, p25, p26, p27, p28, p29, p30⟩
  try simp only [smZ] at *
  omega
def f34 : E := (.imp X1 (.fn 118 (.pr (.int 0) (.fn 23 (.pr (.fn 1 (.pr X0 (.int 20))) (.fn 23 (.pr (.fn 1 (.pr X0 (.int 21))) (.fn 10 (.int 0)))))))))
theorem fact34 (ρ : Env) : E.B ρ f34 = true := by
  unfold f34
  rw [sm_B_imp]
  intro p0
  exact (ty0_c (v3 p0 20 rfl rfl) (ty0_c (v3 p0 21 rfl rfl) ty0_nil))
def f35 : E := (.imp X106 (.not (.cmp .lss X105 (.int 0))))
theorem fact35 (ρ : Env) : E.B ρ f35 = true := by
  unfold f35
  rw [sm_B_imp]
  intro p0
  try simp only [smZ] at *
  have n2 := @fn0_nn ρ (.var 41)
  omega
def f36 : E := (.imp X139 (.not (.cmp .lss (.int 500000) X105)))
theorem fact36 (ρ : Env) : E.B ρ f36 = true := by
  unfold f36
  rw [sm_B_imp]
  simp only [sm_B_and]
  rintro ⟨p0, p1, p2, p3, p4, p5, p6, p7, p8, p9, p10, p11, p12, p13, p14, p15, p16, p17, p18, p19, p20, p21, p22, p23, p24, p25, p26, p27, p28, p29, p30, p31, p32, p33⟩
  try simp only [smZ] at *
  omega
def f37 : E := (.imp X139 (.not (.cmp .lss X105 (.int 1))))
theorem fact37 (ρ : Env) : E.B ρ f37 = true := by
  unfold f37
  rw [sm_B_imp]
  simp only [sm_B_and]
  rintro ⟨p0, p1, p2, p3, p4, p5, p6, p7, p8, p9, p10, p11, p12, p13, p14, p15, p16, p17, p18, p19, p20, p21, p22, p23, p24, p25, p26, p27, p28, p29, p30, p31, p32, p33⟩
  try simp only [smZ] at *
  omega
def f38 : E := (.imp X1 (.fn 118 (.pr (.int 1) (.fn 1 (.pr X0 (.int 22))))))
theorem fact38 (ρ : Env) : E.B ρ f38 = true := by
  unfold f38
  rw [sm_B_imp]
  intro p0
  exact vl p0 22 rfl
def f39 : E := (.imp X3 (.not (.cmp .lss (.int 1000) (.fn 9 (.pr (.fn 1 (.pr X0 (.int 22))) (.int 12))))))
theorem fact39 (ρ : Env) : E.B ρ f39 = true := by
  unfold f39
  rw [sm_B_imp]
  intro p0
  try simp only [smZ] at *
  omega
def f40 : E := (.imp X141 (.not (.cmp .lss X140 (.int 0))))
theorem fact40 (ρ : Env) : E.B ρ f40 = true := by
  unfold f40
  rw [sm_B_imp]
  intro p0
  try simp only [smZ] at *
  have n2 := @fn0_nn ρ (.var 45)
  omega
def f41 : E := (.imp X177 (.not (.cmp .lss (.int 500000) X140)))
theorem fact41 (ρ : Env) : E.B ρ f41 = true := by
  unfold f41
  rw [sm_B_imp]
  simp only [sm_B_and]
  rintro ⟨p0, p1, p2, p3, p4, p5, p6, p7, p8, p9, p10, p11, p12, p13, p14, p15, p16, p17, p18, p19, p20, p21, p22, p23, p24, p25, p26, p27, p28, p29, p30, p31, p32, p33, p34, p35, p36⟩
  try simp only [smZ] at *
  omega
def f42 : E := (.imp X177 (.not (.cmp .lss X140 (.int 1))))
theorem fact42 (ρ : Env) : E.B ρ f42 = true := by
  unfold f42
  rw [sm_B_imp]
  simp only [sm_B_and]
  rintro ⟨p0, p1, p2, p3, p4, p5, p6, p7, p8, p9, p10, p11, p12, p13, p14, p15, p16, p17, p18, p19, p20, p21, p22, p23, p24, p25, p26, p27, p28, p29, p30, p31, p32, p33, p34, p35, p36⟩
  try simp only [smZ] at *
  omega
def f43 : E := (.imp X1 (.fn 118 (.pr (.int 1) (.fn 1 (.pr X0 (.int 23))))))
theorem fact43 (ρ : Env) : E.B ρ f43 = true := by
  unfold f43
  rw [sm_B_imp]
  intro p0
  exact vl p0 23 rfl
def f44 : E := (.imp X3 (.not (.cmp .lss (.int 1000) (.fn 9 (.pr (.fn 1 (.pr X0 (.int 23))) (.int 12))))))
theorem fact44 (ρ : Env) : E.B ρ f44 = true := by
  unfold f44
  rw [sm_B_imp]
  intro p0
  try simp only [smZ] at *
  omega
def f45 : E := (.imp X179 (.not (.cmp .lss X178 (.int 0))))
theorem fact45 (ρ : Env) : E.B ρ f45 = true := by
  unfold f45
  rw [sm_B_imp]
  intro p0
  try simp only [smZ] at *
  have n2 := @fn0_nn ρ (.var 49)
  omega
def f46 : E := (.imp X218 (.not (.cmp .lss (.int 1000000) X178)))
theorem fact46 (ρ : Env) : E.B ρ f46 = true := by
  unfold f46
  rw [sm_B_imp]
  simp only [sm_B_and]
  rintro ⟨p0, p1, p2, p3, p4, p5, p6, p7, p8, p9, p10, p11, p12, p13, p14, p15, p16, p17, p18, p19, p20, p21, p22, p23, p24, p25, p26, p27, p28, p29, p30, p31, p32, p33, p34, p35, p36, p37, p38, p39⟩
  try simp only [smZ] at *
  omega
def f47 : E := (.imp X218 (.not (.cmp .lss X178 (.int 1))))
theorem fact47 (ρ : Env) : E.B ρ f47 = true := by
  unfold f47
  rw [sm_B_imp]
  simp only [sm_B_and]
  rintro ⟨p0, p1, p2, p3, p4, p5, p6, p7, p8, p9, p10, p11, p12, p13, p14, p15, p16, p17, p18, p19, p20, p21, p22, p23, p24, p25, p26, p27, p28, p29, p30, p31, p32, p33, p34, p35, p36, p37, p38, p39⟩
  try simp only [smZ] at *
  omega
def f48 : E := (.imp X219 (.not (.cmp .lss (.var 54) (.int 0))))
theorem fact48 (ρ : Env) : E.B ρ f48 = true := by
  unfold f48
  rw [sm_B_imp]
  intro p0
  try simp only [smZ] at *
  have n2 := @fn0_nn ρ (.var 53)
  omega
def f49 : E := (.imp (.and X3 (.and X4 (.and X5 (.and X6 (.and X7 (.and X8 (.and X2 (.and X14 (.and X15 (.and X13 (.and X18 (.and X19 (.and X17 (.and X32 (.and X33 (.and X31 (.and X49 (.and X50 (.and X48 (.and X68 (.and X69 (.and X67 (.and X71 (.and X72 (.and X70 (.and X75 (.and X76 (.and X74 (.and X103 (.and X104 (.and X102 (.and X107 (.and X108 (.and X106 (.and X142 (.and X143 (.and X141 (.and X180 (.and X181 (.and X179 (.and X220 (.and X221 X219)))))))))))))))))))))))))))))))))))))))))) (.not (.cmp .lss (.int 2000000) (.var 54))))
theorem fact49 (ρ : Env) : E.B ρ f49 = true := by
  unfold f49
  rw [sm_B_imp]
  simp only [sm_B_and]
  rintro ⟨p0, p1, p2, p3, p4, p5, p6, p7, p8, p9, p10, p11, p12, p13, p14, p15, p16, p17, p18, p19, p20, p21, p22, p23, p24, p25, p26, p27, p28, p29, p30, p31, p32, p33, p34, p35, p36, p37, p38, p39, p40, p41, p42⟩
  try simp only [smZ] at *
  omega
def f50 : E := (.imp X1 (.fn 118 (.pr (.int 0) (.fn 23 (.pr (.fn 1 (.pr X0 (.int 27))) (.fn 23 (.pr (.fn 1 (.pr X0 (.int 28))) (.fn 10 (.int 0)))))))))
theorem fact50 (ρ : Env) : E.B ρ f50 = true := by
  unfold f50
  rw [sm_B_imp]
  intro p0
  exact (ty0_c (v3 p0 27 rfl rfl) (ty0_c (v3 p0 28 rfl rfl) ty0_nil))
def f51 : E := (.imp X223 (.not (.cmp .lss X222 (.int 0))))
theorem fact51 (ρ : Env) : E.B ρ f51 = true := by
  unfold f51
  rw [sm_B_imp]
  intro p0
  try simp only [smZ] at *
  have n2 := @fn0_nn ρ (.var 57)
  omega
def f52 : E := (.imp X268 (.not (.cmp .lss (.int 500000) X222)))
theorem fact52 (ρ : Env) : E.B ρ f52 = true := by
  unfold f52
  rw [sm_B_imp]
  simp only [sm_B_and]
  rintro ⟨p0, p1, p2, p3, p4, p5, p6, p7, p8, p9, p10, p11, p12, p13, p14, p15, p16, p17, p18, p19, p20, p21, p22, p23, p24, p25, p26, p27, p28, p29, p30, p31, p32, p33, p34, p35, p36, p37, p38, p39, p40, p41, p42, p43, p44, p45⟩
  try simp only [smZ] at *
  omega
def f53 : E := (.imp X268 (.not (.cmp .lss X222 (.int 1))))
theorem fact53 (ρ : Env) : E.B ρ f53 = true := by
  unfold f53
  rw [sm_B_imp]
  simp only [sm_B_and]
  rintro ⟨p0, p1, p2, p3, p4, p5, p6, p7, p8, p9, p10, p11, p12, p13, p14, p15, p16, p17, p18, p19, p20, p21, p22, p23, p24, p25, p26, p27, p28, p29, p30, p31, p32, p33, p34, p35, p36, p37, p38, p39, p40, p41, p42, p43, p44, p45⟩
  try simp only [smZ] at *
  omega
def f54 : E := (.imp X1 (.fn 118 (.pr (.int 1) (.fn 1 (.pr X0 (.int 29))))))
theorem fact54 (ρ : Env) : E.B ρ f54 = true := by
  unfold f54
  rw [sm_B_imp]
  intro p0
  exact vl p0 29 rfl
def f55 : E := (.imp X3 (.not (.cmp .lss (.int 1000) (.fn 9 (.pr (.fn 1 (.pr X0 (.int 29))) (.int 12))))))
theorem fact55 (ρ : Env) : E.B ρ f55 = true := by
  unfold f55
  rw [sm_B_imp]
  intro p0
  try simp only [smZ] at *
  omega
def f56 : E := (.imp X270 (.not (.cmp .lss X269 (.int 0))))
theorem fact56 (ρ : Env) : E.B ρ f56 = true := by
  unfold f56
  rw [sm_B_imp]
  intro p0
  try simp only [smZ] at *
  have n2 := @fn0_nn ρ (.var 61)
  omega
def f57 : E := (.imp X318 (.not (.cmp .lss (.int 500000) X269)))
theorem fact57 (ρ : Env) : E.B ρ f57 = true := by
  unfold f57
  rw [sm_B_imp]
  simp only [sm_B_and]
  rintro ⟨p0, p1, p2, p3, p4, p5, p6, p7, p8, p9, p10, p11, p12, p13, p14, p15, p16, p17, p18, p19, p20, p21, p22, p23, p24, p25, p26, p27, p28, p29, p30, p31, p32, p33, p34, p35, p36, p37, p38, p39, p40, p41, p42, p43, p44, p45, p46, p47, p48⟩
  try simp only [smZ] at *
  omega
def f58 : E := (.imp X318 (.not (.cmp .lss X269 (.int 1))))
theorem fact58 (ρ : Env) : E.B ρ f58 = true := by
  unfold f58
  rw [sm_B_imp]
  simp only [sm_B_and]
  rintro ⟨p0, p1, p2, p3, p4, p5, p6, p7, p8, p9, p10, p11, p12, p13, p14, p15, p16, p17, p18, p19, p20, p21, p22, p23, p24, p25, p26, p27, p28, p29, p30, p31, p32, p33, p34, p35, p36, p37, p38, p39, p40, p41, p42, p43, p44, p45, p46, p47, p48⟩
  try simp only [smZ] at *
  omega
def f59 : E := (.imp X1 (.fn 118 (.pr (.int 2) (.fn 1 (.pr X0 (.int 30))))))
theorem fact59 (ρ : Env) : E.B ρ f59 = true := by
  unfold f59
  rw [sm_B_imp]
  intro p0
  exact vl p0 30 rfl
def f60 : E := (.imp X3 (.not (.cmp .lss (.int 1000) (.fn 9 (.pr (.fn 1 (.pr X0 (.int 30))) (.int 5))))))
theorem fact60 (ρ : Env) : E.B ρ f60 = true := by
  unfold f60
  rw [sm_B_imp]
  intro p0
  try simp only [smZ] at *
  omega
def f61 : E := (.imp X3 (.not (.cmp .lss (.int 5000) (.fn 114 (.pr (.fn 1 (.pr X0 (.int 30))) (.fn 9 (.pr (.fn 1 (.pr X0 (.int 30))) (.int 5))))))))
theorem fact61 (ρ : Env) : E.B ρ f61 = true := by
  unfold f61
  rw [sm_B_imp]
  intro p0
  try simp only [smZ] at *
  omega
def f62 : E := (.imp X320 (.not (.cmp .lss X319 (.int 0))))
theorem fact62 (ρ : Env) : E.B ρ f62 = true := by
  unfold f62
  rw [sm_B_imp]
  intro p0
  try simp only [smZ] at *
  have n2 := @fn0_nn ρ (.var 65)
  omega
def f63 : E := (.imp X375 (.not (.cmp .lss (.int 500000) X319)))
theorem fact63 (ρ : Env) : E.B ρ f63 = true := by
  unfold f63
  rw [sm_B_imp]
  simp only [sm_B_and]
  rintro ⟨p0, p1, p2, p3, p4, p5, p6, p7, p8, p9, p10, p11, p12, p13, p14, p15, p16, p17, p18, p19, p20, p21, p22, p23, p24, p25, p26, p27, p28, p29, p30, p31, p32, p33, p34, p35, p36, p37, p38, p39, p40, p41, p42, p43, p44, p45, p46, p47, p48, p49, p50, p51⟩
  try simp only [smZ] at *
  omega
def f64 : E := (.imp X375 (.not (.cmp .lss X319 (.int 1))))
theorem fact64 (ρ : Env) : E.B ρ f64 = true := by
  unfold f64
  rw [sm_B_imp]
  simp only [sm_B_and]
  rintro ⟨p0, p1, p2, p3, p4, p5, p6, p7, p8, p9, p10, p11, p12, p13, p14, p15, p16, p17, p18, p19, p20, p21, p22, p23, p24, p25, p26, p27, p28, p29, p30, p31, p32, p33, p34, p35, p36, p37, p38, p39, p40, p41, p42, p43, p44, p45, p46, p47, p48, p49, p50, p51⟩
  try simp only [smZ] at *
  omega
def f65 : E := (.imp X1 (.fn 118 (.pr (.int 2) (.fn 1 (.pr X0 (.int 31))))))
theorem fact65 (ρ : Env) : E.B ρ f65 = true := by
  unfold f65
  rw [sm_B_imp]
  intro p0
  exact vl p0 31 rfl
def f66 : E := (.imp X3 (.not (.cmp .lss (.int 1000) (.fn 9 (.pr (.fn 1 (.pr X0 (.int 31))) (.int 5))))))
theorem fact66 (ρ : Env) : E.B ρ f66 = true := by
  unfold f66
  rw [sm_B_imp]
  intro p0
  try simp only [smZ] at *
  omega
def f67 : E := (.imp X3 (.not (.cmp .lss (.int 5000) (.fn 114 (.pr (.fn 1 (.pr X0 (.int 31))) (.fn 9 (.pr (.fn 1 (.pr X0 (.int 31))) (.int 5))))))))
theorem fact67 (ρ : Env) : E.B ρ f67 = true := by
  unfold f67
  rw [sm_B_imp]
  intro p0
  try simp only [smZ] at *
  omega
def f68 : E := (.imp X377 (.not (.cmp .lss X376 (.int 0))))
theorem fact68 (ρ : Env) : E.B ρ f68 = true := by
  unfold f68
  rw [sm_B_imp]
  intro p0
  try simp only [smZ] at *
  have n2 := @fn0_nn ρ (.var 69)
  omega
def f69 : E := (.imp X435 (.not (.cmp .lss (.int 1000000) X376)))
theorem fact69 (ρ : Env) : E.B ρ f69 = true := by
  unfold f69
  rw [sm_B_imp]
  simp only [sm_B_and]
  rintro ⟨p0, p1, p2, p3, p4, p5, p6, p7, p8, p9, p10, p11, p12, p13, p14, p15, p16, p17, p18, p19, p20, p21, p22, p23, p24, p25, p26, p27, p28, p29, p30, p31, p32, p33, p34, p35, p36, p37, p38, p39, p40, p41, p42, p43, p44, p45, p46, p47, p48, p49, p50, p51, p52, p53, p54⟩
  try simp only [smZ] at *
  omega
def f70 : E := (.imp X435 (.not (.cmp .lss X376 (.int 1))))
theorem fact70 (ρ : Env) : E.B ρ f70 = true := by
  unfold f70
  rw [sm_B_imp]
  simp only [sm_B_and]
  rintro ⟨p0, p1, p2, p3, p4, p5, p6, p7, p8, p9, p10, p11, p12, p13, p14, p15, p16, p17, p18, p19, p20, p21, p22, p23, p24, p25, p26, p27, p28, p29, p30, p31, p32, p33, p34, p35, p36, p37, p38, p39, p40, p41, p42, p43, p44, p45, p46, p47, p48, p49, p50, p51, p52, p53, p54⟩
  try simp only [smZ] at *
  omega
def f71 : E := (.imp X3 (.fn 118 (.pr (.int 0) (.fn 23 (.pr (.fn 0 (.fn 1 (.pr X0 (.int 32)))) (.fn 10 (.int 0)))))))
theorem fact71 (ρ : Env) : E.B ρ f71 = true := by
  unfold f71
  rw [sm_B_imp]
  intro p0
  obtain ⟨g0, g1⟩ : (-9223372036854775808) ≤ E.I ρ (.fn 0 (.fn 1 (.pr X0 (.int 32)))) ∧ E.I ρ (.fn 0 (.fn 1 (.pr X0 (.int 32)))) ≤ (9223372036854775807) := by
    try simp only [smZ] at *
    have n1 := @fn0_nn ρ (.fn 1 (.pr X0 (.int 32)))
    omega
  exact ty0_I ⟨_, rfl⟩ g0 g1 ty0_nil
def f72 : E := (.imp X437 (.not (.cmp .lss X436 (.int 0))))
theorem fact72 (ρ : Env) : E.B ρ f72 = true := by
  unfold f72
  rw [sm_B_imp]
  intro p0
  try simp only [smZ] at *
  have n2 := @fn0_nn ρ (.var 73)
  omega
def f73 : E := (.imp X498 (.not (.cmp .lss (.int 2000000) X436)))
theorem fact73 (ρ : Env) : E.B ρ f73 = true := by
  unfold f73
  rw [sm_B_imp]
  simp only [sm_B_and]
  rintro ⟨p0, p1, p2, p3, p4, p5, p6, p7, p8, p9, p10, p11, p12, p13, p14, p15, p16, p17, p18, p19, p20, p21, p22, p23, p24, p25, p26, p27, p28, p29, p30, p31, p32, p33, p34, p35, p36, p37, p38, p39, p40, p41, p42, p43, p44, p45, p46, p47, p48, p49, p50, p51, p52, p53, p54, p55, p56, p57⟩
  try simp only [smZ] at *
  omega
def f74 : E := (.imp X498 (.not (.cmp .lss X436 (.int 1))))
theorem fact74 (ρ : Env) : E.B ρ f74 = true := by
  unfold f74
  rw [sm_B_imp]
  simp only [sm_B_and]
  rintro ⟨p0, p1, p2, p3, p4, p5, p6, p7, p8, p9, p10, p11, p12, p13, p14, p15, p16, p17, p18, p19, p20, p21, p22, p23, p24, p25, p26, p27, p28, p29, p30, p31, p32, p33, p34, p35, p36, p37, p38, p39, p40, p41, p42, p43, p44, p45, p46, p47, p48, p49, p50, p51, p52, p53, p54, p55, p56, p57⟩
  try simp only [smZ] at *
  omega
def f75 : E := (.imp X1 (.fn 118 (.pr (.int 0) (.fn 1 (.pr X0 (.int 32))))))
theorem fact75 (ρ : Env) : E.B ρ f75 = true := by
  unfold f75
  rw [sm_B_imp]
  intro p0
  exact vl p0 32 rfl
def f76 : E := (.imp X3 (.not (.cmp .lss (.int 1000) (.fn 0 (.fn 1 (.pr X0 (.int 32)))))))
theorem fact76 (ρ : Env) : E.B ρ f76 = true := by
  unfold f76
  rw [sm_B_imp]
  intro p0
  try simp only [smZ] at *
  omega
def f77 : E := (.imp X500 (.not (.cmp .lss X499 (.int 0))))
theorem fact77 (ρ : Env) : E.B ρ f77 = true := by
  unfold f77
  rw [sm_B_imp]
  intro p0
  try simp only [smZ] at *
  have n2 := @fn0_nn ρ (.var 77)
  omega
def f78 : E := (.imp X564 (.not (.cmp .lss (.int 1000000) X499)))
theorem fact78 (ρ : Env) : E.B ρ f78 = true := by
  unfold f78
  rw [sm_B_imp]
  simp only [sm_B_and]
  rintro ⟨p0, p1, p2, p3, p4, p5, p6, p7, p8, p9, p10, p11, p12, p13, p14, p15, p16, p17, p18, p19, p20, p21, p22, p23, p24, p25, p26, p27, p28, p29, p30, p31, p32, p33, p34, p35, p36, p37, p38, p39, p40, p41, p42, p43, p44, p45, p46, p47, p48, p49, p50, p51, p52, p53, p54, p55, p56, p57, p58, p59, p60⟩
  try simp only [smZ] at *
  omega
def f79 : E := (.imp X564 (.not (.cmp .lss X499 (.int 1))))
theorem fact79 (ρ : Env) : E.B ρ f79 = true := by
  unfold f79
  rw [sm_B_imp]
  simp only [sm_B_and]
  rintro ⟨p0, p1, p2, p3, p4, p5, p6, p7, p8, p9, p10, p11, p12, p13, p14, p15, p16, p17, p18, p19, p20, p21, p22, p23, p24, p25, p26, p27, p28, p29, p30, p31, p32, p33, p34, p35, p36, p37, p38, p39, p40, p41, p42, p43, p44, p45, p46, p47, p48, p49, p50, p51, p52, p53, p54, p55, p56, p57, p58, p59, p60⟩
  try simp only [smZ] at *
  omega
def f80 : E := (.imp X3 (.fn 118 (.pr (.int 0) (.fn 23 (.pr (.fn 9 (.pr (.fn 1 (.pr X0 (.int 33))) (.int 2))) (.fn 10 (.int 0)))))))
theorem fact80 (ρ : Env) : E.B ρ f80 = true := by
  unfold f80
  rw [sm_B_imp]
  intro p0
  obtain ⟨g0, g1⟩ : (-9223372036854775808) ≤ E.I ρ (.fn 9 (.pr (.fn 1 (.pr X0 (.int 33))) (.int 2))) ∧ E.I ρ (.fn 9 (.pr (.fn 1 (.pr X0 (.int 33))) (.int 2))) ≤ (9223372036854775807) := by
    have hr0 := @rows_nn ρ (.fn 1 (.pr X0 (.int 33))) (2)
    try simp only [smZ] at *
    omega
  exact ty0_I ⟨_, rfl⟩ g0 g1 ty0_nil
def f81 : E := (.imp (.and (.fn 101 (.pr (.var 1) (.pr (.var 4) (.pr (.fn 10 (.int 0)) (.pr (.bool false) (.pr (.int 0) (.pr (.fn 23 (.pr (.fn 1 (.pr X0 (.int 0))) (.fn 10 (.int 0)))) (.int 1)))))))) (.and (.fn 101 (.pr (.var 5) (.pr (.var 8) (.pr (.var 1) (.pr (.var 4) (.pr (.int 0) (.pr (.fn 23 (.pr (.fn 1 (.pr X0 (.int 1))) (.fn 10 (.int 0)))) (.int 1)))))))) (.and (.fn 101 (.pr (.var 9) (.pr (.var 12) (.pr (.var 5) (.pr (.var 8) (.pr (.int 0) (.pr (.fn 23 (.pr (.fn 1 (.pr X0 (.int 2))) (.fn 23 (.pr (.fn 1 (.pr X0 (.int 3))) (.fn 23 (.pr (.fn 1 (.pr X0 (.int 4))) (.fn 23 (.pr (.fn 1 (.pr X0 (.int 5))) (.fn 10 (.int 0)))))))))) (.int 4)))))))) (.and (.fn 101 (.pr (.var 13) (.pr (.var 16) (.pr (.var 9) (.pr (.var 12) (.pr (.int 0) (.pr (.fn 23 (.pr (.fn 1 (.pr X0 (.int 6))) (.fn 23 (.pr (.fn 1 (.pr X0 (.int 7))) (.fn 10 (.int 0)))))) (.int 2)))))))) (.and (.fn 101 (.pr (.var 17) (.pr (.var 20) (.pr (.var 13) (.pr (.var 16) (.pr (.int 1) (.pr (.fn 1 (.pr X0 (.int 8))) (.fn 9 (.pr (.fn 1 (.pr X0 (.int 8))) (.int 12)))))))))) (.and (.fn 101 (.pr (.var 21) (.pr (.var 24) (.pr (.var 17) (.pr (.var 20) (.pr (.int 1) (.pr (.fn 1 (.pr X0 (.int 9))) (.fn 9 (.pr (.fn 1 (.pr X0 (.int 9))) (.int 12)))))))))) (.and (.fn 101 (.pr (.var 25) (.pr (.var 28) (.pr (.var 21) (.pr (.var 24) (.pr (.int 3) (.pr (.fn 23 (.pr (.fn 1 (.pr X0 (.int 10))) (.fn 23 (.pr (.fn 1 (.pr X0 (.int 11))) (.fn 23 (.pr (.fn 1 (.pr X0 (.int 12))) (.fn 10 (.int 0)))))))) (.int 3)))))))) (.and (.fn 101 (.pr (.var 29) (.pr (.var 32) (.pr (.var 25) (.pr (.var 28) (.pr (.int 0) (.pr (.fn 23 (.pr (.fn 1 (.pr X0 (.int 13))) (.fn 23 (.pr (.fn 1 (.pr X0 (.int 14))) (.fn 10 (.int 0)))))) (.int 2)))))))) (.and (.fn 101 (.pr (.var 33) (.pr (.var 36) (.pr (.var 29) (.pr (.var 32) (.pr (.int 0) (.pr (.fn 23 (.pr (.fn 1 (.pr X0 (.int 15))) (.fn 10 (.int 0)))) (.int 1)))))))) (.and (.fn 101 (.pr (.var 37) (.pr (.var 40) (.pr (.var 33) (.pr (.var 36) (.pr (.int 0) (.pr (.fn 23 (.pr (.fn 1 (.pr X0 (.int 16))) (.fn 23 (.pr (.fn 1 (.pr X0 (.int 17))) (.fn 23 (.pr (.fn 1 (.pr X0 (.int 18))) (.fn 23 (.pr (.fn 1 (.pr X0 (.int 19))) (.fn 10 (.int 0)))))))))) (.int 4)))))))) (.and (.fn 101 (.pr (.var 41) (.pr (.var 44) (.pr (.var 37) (.pr (.var 40) (.pr (.int 0) (.pr (.fn 23 (.pr (.fn 1 (.pr X0 (.int 20))) (.fn 23 (.pr (.fn 1 (.pr X0 (.int 21))) (.fn 10 (.int 0)))))) (.int 2)))))))) (.and (.fn 101 (.pr (.var 45) (.pr (.var 48) (.pr (.var 41) (.pr (.var 44) (.pr (.int 1) (.pr (.fn 1 (.pr X0 (.int 22))) (.fn 9 (.pr (.fn 1 (.pr X0 (.int 22))) (.int 12)))))))))) (.and (.fn 101 (.pr (.var 49) (.pr (.var 52) (.pr (.var 45) (.pr (.var 48) (.pr (.int 1) (.pr (.fn 1 (.pr X0 (.int 23))) (.fn 9 (.pr (.fn 1 (.pr X0 (.int 23))) (.int 12)))))))))) (.and (.fn 101 (.pr (.var 53) (.pr (.var 56) (.pr (.var 49) (.pr (.var 52) (.pr (.int 3) (.pr (.fn 23 (.pr (.fn 1 (.pr X0 (.int 24))) (.fn 23 (.pr (.fn 1 (.pr X0 (.int 25))) (.fn 23 (.pr (.fn 1 (.pr X0 (.int 26))) (.fn 10 (.int 0)))))))) (.int 3)))))))) (.and (.fn 101 (.pr (.var 57) (.pr (.var 60) (.pr (.var 53) (.pr (.var 56) (.pr (.int 0) (.pr (.fn 23 (.pr (.fn 1 (.pr X0 (.int 27))) (.fn 23 (.pr (.fn 1 (.pr X0 (.int 28))) (.fn 10 (.int 0)))))) (.int 2)))))))) (.and (.fn 101 (.pr (.var 61) (.pr (.var 64) (.pr (.var 57) (.pr (.var 60) (.pr (.int 1) (.pr (.fn 1 (.pr X0 (.int 29))) (.fn 9 (.pr (.fn 1 (.pr X0 (.int 29))) (.int 12)))))))))) (.and (.fn 101 (.pr (.var 65) (.pr (.var 68) (.pr (.var 61) (.pr (.var 64) (.pr (.int 2) (.pr (.fn 1 (.pr X0 (.int 30))) (.fn 9 (.pr (.fn 1 (.pr X0 (.int 30))) (.int 5)))))))))) (.and (.fn 101 (.pr (.var 69) (.pr (.var 72) (.pr (.var 65) (.pr (.var 68) (.pr (.int 2) (.pr (.fn 1 (.pr X0 (.int 31))) (.fn 9 (.pr (.fn 1 (.pr X0 (.int 31))) (.int 5)))))))))) (.and (.fn 102 (.pr (.var 73) (.pr (.var 76) (.pr (.var 69) (.pr (.var 72) (.pr (.fn 0 (.fn 1 (.pr X0 (.int 32)))) (.int 1000))))))) (.and (.fn 101 (.pr (.var 77) (.pr (.var 80) (.pr (.var 73) (.pr (.var 76) (.pr (.int 0) (.pr (.fn 1 (.pr X0 (.int 32))) (.fn 0 (.fn 1 (.pr X0 (.int 32))))))))))) (.and (.fn 102 (.pr (.var 81) (.pr (.var 84) (.pr (.var 77) (.pr (.var 80) (.pr (.fn 9 (.pr (.fn 1 (.pr X0 (.int 33))) (.int 2))) (.int 1000))))))) X1))))))))))))))))))))) (.fn 108 (.pr (.var 81) (.pr (.var 84) (.pr X0 (.pr (.int 33) (.int 0)))))))
theorem fact81 (ρ : Env) : E.B ρ f81 = true := by
  unfold f81
  rw [sm_B_imp]
  simp only [sm_B_and]
  rintro ⟨p0, p1, p2, p3, p4, p5, p6, p7, p8, p9, p10, p11, p12, p13, p14, p15, p16, p17, p18, p19, p20, p21⟩
  exact t108_first p21 p0 p1 p2 p3 p4 p5 p6 p7 p8 p9 p10 p11 p12 p13 p14 p15 p16 p17 p18 p19 p20
def f82 : E := (.imp X631 (.not (.cmp .lss X565 (.int 1))))
theorem fact82 (ρ : Env) : E.B ρ f82 = true := by
  unfold f82
  rw [sm_B_imp]
  simp only [sm_B_and]
  rintro ⟨p0, p1, p2, p3, p4, p5, p6, p7, p8, p9, p10, p11, p12, p13, p14, p15, p16, p17, p18, p19, p20, p21, p22, p23, p24, p25, p26, p27, p28, p29, p30, p31, p32, p33, p34, p35, p36, p37, p38, p39, p40, p41, p42, p43, p44, p45, p46, p47, p48, p49, p50, p51, p52, p53, p54, p55, p56, p57, p58, p59, p60, p61, p62, p63⟩
  try simp only [smZ] at *
  omega
def f83 : E := (.imp X631 (.not (.cmp .lss (.fn 6 (.pr (.int 60000) (.fn 8 (.pr (.int 20) (.int 0))))) X565)))
theorem fact83 (ρ : Env) : E.B ρ f83 = true := by
  unfold f83
  rw [sm_B_imp]
  simp only [sm_B_and]
  rintro ⟨p0, p1, p2, p3, p4, p5, p6, p7, p8, p9, p10, p11, p12, p13, p14, p15, p16, p17, p18, p19, p20, p21, p22, p23, p24, p25, p26, p27, p28, p29, p30, p31, p32, p33, p34, p35, p36, p37, p38, p39, p40, p41, p42, p43, p44, p45, p46, p47, p48, p49, p50, p51, p52, p53, p54, p55, p56, p57, p58, p59, p60, p61, p62, p63⟩
  try simp only [smZ] at *
  omega
def f84 : E := (.imp (.and X634 (.and X635 X639)) (.not (.cmp .lss (.int 2000000) X633)))
theorem fact84 (ρ : Env) : E.B ρ f84 = true := by
  unfold f84
  rw [sm_B_imp]
  simp only [sm_B_and]
  rintro ⟨p0, p1, p2, p3, p4⟩
  try simp only [smZ] at *
  omega
def f85 : E := (.imp (.and X634 (.and X635 (.and X641 (.and X3 X642)))) (.not (.cmp .lss (.int 2000000) X633)))
theorem fact85 (ρ : Env) : E.B ρ f85 = true := by
  unfold f85
  rw [sm_B_imp]
  simp only [sm_B_and]
  rintro ⟨p0, p1, p2, p3, p4⟩
  try simp only [smZ] at *
  omega
def f86 : E := (.imp (.and X637 (.and X638 X1)) (.fn 118 (.pr (.int 0) (.fn 23 (.pr (.fn 1 (.pr (.fn 1 (.pr X0 (.int 33))) (.fn 6 (.pr (.fn 8 (.pr X632 (.int 2))) (.int 0))))) (.fn 23 (.pr (.fn 1 (.pr (.fn 1 (.pr X0 (.int 33))) (.fn 6 (.pr (.fn 8 (.pr X632 (.int 2))) (.int 1))))) (.fn 10 (.int 0)))))))))
theorem fact86 (ρ : Env) : E.B ρ f86 = true := by
  unfold f86
  rw [sm_B_imp]
  simp only [sm_B_and]
  rintro ⟨p0, p1, p2⟩
  exact t118_row33 p2 (by simp only [smZ] at * <;> omega) (by simp only [smZ] at * <;> omega)
def f87 : E := (.imp X1 (.fn 118 (.pr (.int 0) (.fn 23 (.pr (.fn 1 (.pr X0 (.int 34))) (.fn 23 (.pr (.fn 1 (.pr X0 (.int 35))) (.fn 23 (.pr (.fn 1 (.pr X0 (.int 36))) (.fn 23 (.pr (.fn 1 (.pr X0 (.int 37))) (.fn 23 (.pr (.fn 1 (.pr X0 (.int 38))) (.fn 23 (.pr (.fn 1 (.pr X0 (.int 39))) (.fn 23 (.pr (.fn 1 (.pr X0 (.int 40))) (.fn 23 (.pr (.fn 1 (.pr X0 (.int 41))) (.fn 10 (.int 0)))))))))))))))))))))
theorem fact87 (ρ : Env) : E.B ρ f87 = true := by
  unfold f87
  rw [sm_B_imp]
  intro p0
  exact (ty0_c (v3 p0 34 rfl rfl) (ty0_c (v3 p0 35 rfl rfl) (ty0_c (v3 p0 36 rfl rfl) (ty0_c (v3 p0 37 rfl rfl) (ty0_c (v3 p0 38 rfl rfl) (ty0_c (v3 p0 39 rfl rfl) (ty0_c (v3 p0 40 rfl rfl) (ty0_c (v3 p0 41 rfl rfl) ty0_nil))))))))
def f88 : E := (.imp (.and X637 (.and X645 (.and X638 (.and (.fn 101 (.pr (.var 261) (.pr (.var 264) (.pr (.var 256) (.pr (.var 259) (.pr (.int 0) (.pr (.fn 23 (.pr (.fn 1 (.pr (.fn 1 (.pr X0 (.int 33))) (.fn 6 (.pr (.fn 8 (.pr X632 (.int 2))) (.int 0))))) (.fn 23 (.pr (.fn 1 (.pr (.fn 1 (.pr X0 (.int 33))) (.fn 6 (.pr (.fn 8 (.pr X632 (.int 2))) (.int 1))))) (.fn 10 (.int 0)))))) (.int 2)))))))) (.and X3 X1))))) (.fn 108 (.pr (.var 261) (.pr (.var 264) (.pr X0 (.pr (.int 33) X646))))))
theorem fact88 (ρ : Env) : E.B ρ f88 = true := by
  unfold f88
  rw [sm_B_imp]
  simp only [sm_B_and]
  rintro ⟨p0, p1, p2, p3, p4, p5⟩
  have g0 : E.I ρ X646 = E.I ρ (.fn 6 (.pr X632 (.int 1))) := by
    try simp only [smZ] at *
    obtain ⟨a2, ea2, qa2⟩ := cs_i64 ((E.I ρ X632) + (1))
    try simp only [ea2] at *
    omega
  exact t108_step33 p5 p1 p3 (by simp only [smZ] at * <;> omega) (by simp only [smZ] at * <;> omega) g0
def f89 : E := (.imp X648 (.not (.cmp .lss X647 (.int 0))))
theorem fact89 (ρ : Env) : E.B ρ f89 = true := by
  unfold f89
  rw [sm_B_imp]
  intro p0
  try simp only [smZ] at *
  have n2 := @fn0_nn ρ (.var 261)
  omega
def f90 : E := (.imp X639 (.not (.cmp .lss X646 (.int 0))))
theorem fact90 (ρ : Env) : E.B ρ f90 = true := by
  unfold f90
  rw [sm_B_imp]
  simp only [sm_B_and]
  rintro ⟨p0, p1, p2⟩
  try simp only [smZ] at *
  obtain ⟨a2, ea2, qa2⟩ := cs_i64 ((E.I ρ X632) + (1))
  try simp only [ea2] at *
  omega
def f91 : E := (.imp X662 (.not (.cmp .lss (.int 1000000) X647)))
theorem fact91 (ρ : Env) : E.B ρ f91 = true := by
  unfold f91
  rw [sm_B_imp]
  simp only [sm_B_and]
  rintro ⟨p0, p1, p2, p3, p4, p5, p6, p7, p8⟩
  try simp only [smZ] at *
  omega
def f92 : E := (.imp X639 (.not (.cmp .lss (.fn 9 (.pr (.fn 1 (.pr X0 (.int 33))) (.int 2))) X646)))
theorem fact92 (ρ : Env) : E.B ρ f92 = true := by
  unfold f92
  rw [sm_B_imp]
  simp only [sm_B_and]
  rintro ⟨p0, p1, p2⟩
  try simp only [smZ] at *
  obtain ⟨a2, ea2, qa2⟩ := cs_i64 ((E.I ρ X632) + (1))
  try simp only [ea2] at *
  omega
def f93 : E := (.imp X662 (.not (.cmp .lss X647 (.int 1))))
theorem fact93 (ρ : Env) : E.B ρ f93 = true := by
  unfold f93
  rw [sm_B_imp]
  simp only [sm_B_and]
  rintro ⟨p0, p1, p2, p3, p4, p5, p6, p7, p8⟩
  try simp only [smZ] at *
  omega
def f94 : E := (.imp (.and X634 (.and X650 X669)) (.not (.cmp .lss X647 (.int 1))))
theorem fact94 (ρ : Env) : E.B ρ f94 = true := by
  unfold f94
  rw [sm_B_imp]
  simp only [sm_B_and]
  rintro ⟨p0, p1, p2, p3, p4, p5, p6, p7, p8⟩
  try simp only [smZ] at *
  omega
def f95 : E := (.imp X3 (.fn 118 (.pr (.int 0) (.fn 23 (.pr (.fn 9 (.pr (.fn 1 (.pr X0 (.int 42))) (.int 3))) (.fn 10 (.int 0)))))))
theorem fact95 (ρ : Env) : E.B ρ f95 = true := by
  unfold f95
  rw [sm_B_imp]
  intro p0
  obtain ⟨g0, g1⟩ : (-9223372036854775808) ≤ E.I ρ (.fn 9 (.pr (.fn 1 (.pr X0 (.int 42))) (.int 3))) ∧ E.I ρ (.fn 9 (.pr (.fn 1 (.pr X0 (.int 42))) (.int 3))) ≤ (9223372036854775807) := by
    have hr0 := @rows_nn ρ (.fn 1 (.pr X0 (.int 42))) (3)
    try simp only [smZ] at *
    omega
  exact ty0_I ⟨_, rfl⟩ g0 g1 ty0_nil
def f96 : E := (.imp (.and X634 X669) (.not (.cmp .lss (.fn 6 (.pr (.int 60000) (.fn 8 (.pr (.int 20) X646)))) X647)))
theorem fact96 (ρ : Env) : E.B ρ f96 = true := by
  unfold f96
  rw [sm_B_imp]
  simp only [sm_B_and]
  rintro ⟨p0, p1, p2, p3, p4, p5, p6, p7⟩
  try simp only [smZ] at *
  obtain ⟨a6, ea6, qa6⟩ := cs_i64 ((E.I ρ X632) + (1))
  try simp only [ea6] at *
  omega
def f97 : E := (.imp (.and X641 (.and X645 (.and X642 (.and (.fn 101 (.pr (.var 261) (.pr (.var 264) (.pr (.var 256) (.pr (.var 259) (.pr (.int 0) (.pr (.fn 23 (.pr (.fn 1 (.pr X0 (.int 34))) (.fn 23 (.pr (.fn 1 (.pr X0 (.int 35))) (.fn 23 (.pr (.fn 1 (.pr X0 (.int 36))) (.fn 23 (.pr (.fn 1 (.pr X0 (.int 37))) (.fn 23 (.pr (.fn 1 (.pr X0 (.int 38))) (.fn 23 (.pr (.fn 1 (.pr X0 (.int 39))) (.fn 23 (.pr (.fn 1 (.pr X0 (.int 40))) (.fn 23 (.pr (.fn 1 (.pr X0 (.int 41))) (.fn 10 (.int 0)))))))))))))))))) (.int 8)))))))) (.and (.fn 102 (.pr (.var 265) (.pr (.var 268) (.pr (.var 261) (.pr (.var 264) (.pr (.fn 9 (.pr (.fn 1 (.pr X0 (.int 42))) (.int 3))) (.int 20))))))) X3))))) (.fn 108 (.pr (.var 265) (.pr (.var 268) (.pr X0 (.pr (.int 42) (.int 0)))))))
theorem fact97 (ρ : Env) : E.B ρ f97 = true := by
  unfold f97
  rw [sm_B_imp]
  simp only [sm_B_and]
  rintro ⟨p0, p1, p2, p3, p4, p5⟩
  have g0 : E.I ρ X632 = E.I ρ (.fn 9 (.pr (.fn 1 (.pr X0 (.int 33))) (.int 2))) := by
    try simp only [smZ] at *
    omega
  exact t108_next p1 g0 p3 p4
def f98 : E := (.imp X639 (.cmp .lss (.fn 7 (.pr (.fn 9 (.pr (.fn 1 (.pr X0 (.int 33))) (.int 2))) X646)) (.fn 7 (.pr (.fn 9 (.pr (.fn 1 (.pr X0 (.int 33))) (.int 2))) X632))))
theorem fact98 (ρ : Env) : E.B ρ f98 = true := by
  unfold f98
  rw [sm_B_imp]
  simp only [sm_B_and]
  rintro ⟨p0, p1, p2⟩
  try simp only [smZ] at *
  obtain ⟨a2, ea2, qa2⟩ := cs_i64 ((E.I ρ X632) + (1))
  try simp only [ea2] at *
  omega
def f99 : E := (.imp X684 (.not (.cmp .lss X670 (.int 1))))
theorem fact99 (ρ : Env) : E.B ρ f99 = true := by
  unfold f99
  rw [sm_B_imp]
  simp only [sm_B_and]
  rintro ⟨p0, p1, p2, p3, p4, p5, p6, p7, p8, p9, p10, p11⟩
  try simp only [smZ] at *
  omega
def f100 : E := (.imp X639 (.not (.cmp .lss (.fn 7 (.pr (.fn 9 (.pr (.fn 1 (.pr X0 (.int 33))) (.int 2))) X646)) (.int 0))))
theorem fact100 (ρ : Env) : E.B ρ f100 = true := by
  unfold f100
  rw [sm_B_imp]
  simp only [sm_B_and]
  rintro ⟨p0, p1, p2⟩
  try simp only [smZ] at *
  obtain ⟨a2, ea2, qa2⟩ := cs_i64 ((E.I ρ X632) + (1))
  try simp only [ea2] at *
  omega
def f101 : E := (.imp X684 (.not (.cmp .lss (.fn 6 (.pr (.int 70000) (.fn 8 (.pr (.int 30) (.int 0))))) X670)))
theorem fact101 (ρ : Env) : E.B ρ f101 = true := by
  unfold f101
  rw [sm_B_imp]
  simp only [sm_B_and]
  rintro ⟨p0, p1, p2, p3, p4, p5, p6, p7, p8, p9, p10, p11⟩
  try simp only [smZ] at *
  omega
def f102 : E := (.imp (.and X688 (.and X689 X693)) (.not (.cmp .lss (.int 2000000) X686)))
theorem fact102 (ρ : Env) : E.B ρ f102 = true := by
  unfold f102
  rw [sm_B_imp]
  simp only [sm_B_and]
  rintro ⟨p0, p1, p2, p3, p4⟩
  try simp only [smZ] at *
  omega
def f103 : E := (.imp (.and X695 (.and X698 (.and (.not X692) X3))) (.fn 104 (.pr (.var 320) (.pr (.var 323) (.pr X0 (.int 43))))))
theorem fact103 (ρ : Env) : E.B ρ f103 = true := by
  unfold f103
  rw [sm_B_imp]
  simp only [sm_B_and]
  rintro ⟨p0, p1, p2, p3⟩
  have g0 : E.I ρ X685 = E.I ρ (.fn 9 (.pr (.fn 1 (.pr X0 (.int 42))) (.int 3))) := by
    try simp only [smZ] at *
    omega
  exact t104_end p1 g0
def f104 : E := (.imp (.and X691 (.and X692 X1)) (.fn 118 (.pr (.int 0) (.fn 23 (.pr (.fn 1 (.pr (.fn 1 (.pr X0 (.int 42))) (.fn 6 (.pr (.fn 8 (.pr X685 (.int 3))) (.int 0))))) (.fn 23 (.pr (.fn 1 (.pr (.fn 1 (.pr X0 (.int 42))) (.fn 6 (.pr (.fn 8 (.pr X685 (.int 3))) (.int 1))))) (.fn 23 (.pr (.fn 1 (.pr (.fn 1 (.pr X0 (.int 42))) (.fn 6 (.pr (.fn 8 (.pr X685 (.int 3))) (.int 2))))) (.fn 10 (.int 0)))))))))))
theorem fact104 (ρ : Env) : E.B ρ f104 = true := by
  unfold f104
  rw [sm_B_imp]
  simp only [sm_B_and]
  rintro ⟨p0, p1, p2⟩
  exact t118_row42 p2 (by simp only [smZ] at * <;> omega) (by simp only [smZ] at * <;> omega)
def f105 : E := (.imp (.and X688 (.and X689 (.and X695 (.and X3 (.not X692))))) (.not (.cmp .lss (.int 100000) X686)))
theorem fact105 (ρ : Env) : E.B ρ f105 = true := by
  unfold f105
  rw [sm_B_imp]
  simp only [sm_B_and]
  rintro ⟨p0, p1, p2, p3, p4⟩
  try simp only [smZ] at *
  omega
def f106 : E := (.imp (.and X691 (.and X698 (.and X692 (.and (.fn 101 (.pr (.var 325) (.pr (.var 328) (.pr (.var 320) (.pr (.var 323) (.pr (.int 0) (.pr (.fn 23 (.pr (.fn 1 (.pr (.fn 1 (.pr X0 (.int 42))) (.fn 6 (.pr (.fn 8 (.pr X685 (.int 3))) (.int 0))))) (.fn 23 (.pr (.fn 1 (.pr (.fn 1 (.pr X0 (.int 42))) (.fn 6 (.pr (.fn 8 (.pr X685 (.int 3))) (.int 1))))) (.fn 23 (.pr (.fn 1 (.pr (.fn 1 (.pr X0 (.int 42))) (.fn 6 (.pr (.fn 8 (.pr X685 (.int 3))) (.int 2))))) (.fn 10 (.int 0)))))))) (.int 3)))))))) (.and X3 X1))))) (.fn 108 (.pr (.var 325) (.pr (.var 328) (.pr X0 (.pr (.int 42) X699))))))
theorem fact106 (ρ : Env) : E.B ρ f106 = true := by
  unfold f106
  rw [sm_B_imp]
  simp only [sm_B_and]
  rintro ⟨p0, p1, p2, p3, p4, p5⟩
  have g0 : E.I ρ X699 = E.I ρ (.fn 6 (.pr X685 (.int 1))) := by
    try simp only [smZ] at *
    obtain ⟨a2, ea2, qa2⟩ := cs_i64 ((E.I ρ X685) + (1))
    try simp only [ea2] at *
    omega
  exact t108_step42 p5 p1 p3 (by simp only [smZ] at * <;> omega) (by simp only [smZ] at * <;> omega) g0
def f107 : E := (.imp X693 (.not (.cmp .lss X699 (.int 0))))
theorem fact107 (ρ : Env) : E.B ρ f107 = true := by
  unfold f107
  rw [sm_B_imp]
  simp only [sm_B_and]
  rintro ⟨p0, p1, p2⟩
  try simp only [smZ] at *
  obtain ⟨a2, ea2, qa2⟩ := cs_i64 ((E.I ρ X685) + (1))
  try simp only [ea2] at *
  omega
def f108 : E := (.imp X693 (.not (.cmp .lss (.fn 9 (.pr (.fn 1 (.pr X0 (.int 42))) (.int 3))) X699)))
theorem fact108 (ρ : Env) : E.B ρ f108 = true := by
  unfold f108
  rw [sm_B_imp]
  simp only [sm_B_and]
  rintro ⟨p0, p1, p2⟩
  try simp only [smZ] at *
  obtain ⟨a2, ea2, qa2⟩ := cs_i64 ((E.I ρ X685) + (1))
  try simp only [ea2] at *
  omega
def f109 : E := (.imp (.and X688 (.and (.not (.cmp .lss X686 (.int 1))) X709)) (.not (.cmp .lss X700 (.int 1))))
theorem fact109 (ρ : Env) : E.B ρ f109 = true := by
  unfold f109
  rw [sm_B_imp]
  simp only [sm_B_and]
  rintro ⟨p0, p1, p2, p3, p4, p5, p6, p7, p8⟩
  try simp only [smZ] at *
  omega
def f110 : E := (.imp (.and X688 X709) (.not (.cmp .lss (.fn 6 (.pr (.int 70000) (.fn 8 (.pr (.int 30) X699)))) X700)))
theorem fact110 (ρ : Env) : E.B ρ f110 = true := by
  unfold f110
  rw [sm_B_imp]
  simp only [sm_B_and]
  rintro ⟨p0, p1, p2, p3, p4, p5, p6, p7⟩
  try simp only [smZ] at *
  obtain ⟨a6, ea6, qa6⟩ := cs_i64 ((E.I ρ X685) + (1))
  try simp only [ea6] at *
  omega
def f111 : E := (.imp X693 (.cmp .lss (.fn 7 (.pr (.fn 9 (.pr (.fn 1 (.pr X0 (.int 42))) (.int 3))) X699)) (.fn 7 (.pr (.fn 9 (.pr (.fn 1 (.pr X0 (.int 42))) (.int 3))) X685))))
theorem fact111 (ρ : Env) : E.B ρ f111 = true := by
  unfold f111
  rw [sm_B_imp]
  simp only [sm_B_and]
  rintro ⟨p0, p1, p2⟩
  try simp only [smZ] at *
  obtain ⟨a2, ea2, qa2⟩ := cs_i64 ((E.I ρ X685) + (1))
  try simp only [ea2] at *
  omega
def f112 : E := (.imp X693 (.not (.cmp .lss (.fn 7 (.pr (.fn 9 (.pr (.fn 1 (.pr X0 (.int 42))) (.int 3))) X699)) (.int 0))))
theorem fact112 (ρ : Env) : E.B ρ f112 = true := by
  unfold f112
  rw [sm_B_imp]
  simp only [sm_B_and]
  rintro ⟨p0, p1, p2⟩
  try simp only [smZ] at *
  obtain ⟨a2, ea2, qa2⟩ := cs_i64 ((E.I ρ X685) + (1))
  try simp only [ea2] at *
  omega
def facts : List E := [f0, f1, f2, f3, f4, f5, f6, f7, f8, f9, f10, f11, f12, f13, f14, f15, f16, f17, f18, f19, f20, f21, f22, f23, f24, f25, f26, f27, f28, f29, f30, f31, f32, f33, f34, f35, f36, f37, f38, f39, f40, f41, f42, f43, f44, f45, f46, f47, f48, f49, f50, f51, f52, f53, f54, f55, f56, f57, f58, f59, f60, f61, f62, f63, f64, f65, f66, f67, f68, f69, f70, f71, f72, f73, f74, f75, f76, f77, f78, f79, f80, f81, f82, f83, f84, f85, f86, f87, f88, f89, f90, f91, f92, f93, f94, f95, f96, f97, f98, f99, f100, f101, f102, f103, f104, f105, f106, f107, f108, f109, f110, f111, f112]
theorem facts_ok : ∀ e ∈ facts, ∀ ρ : Env, E.B ρ e = true := (all_cons fact0 (all_cons fact1 (all_cons fact2 (all_cons fact3 (all_cons fact4 (all_cons fact5 (all_cons fact6 (all_cons fact7 (all_cons fact8 (all_cons fact9 (all_cons fact10 (all_cons fact11 (all_cons fact12 (all_cons fact13 (all_cons fact14 (all_cons fact15 (all_cons fact16 (all_cons fact17 (all_cons fact18 (all_cons fact19 (all_cons fact20 (all_cons fact21 (all_cons fact22 (all_cons fact23 (all_cons fact24 (all_cons fact25 (all_cons fact26 (all_cons fact27 (all_cons fact28 (all_cons fact29 (all_cons fact30 (all_cons fact31 (all_cons fact32 (all_cons fact33 (all_cons fact34 (all_cons fact35 (all_cons fact36 (all_cons fact37 (all_cons fact38 (all_cons fact39 (all_cons fact40 (all_cons fact41 (all_cons fact42 (all_cons fact43 (all_cons fact44 (all_cons fact45 (all_cons fact46 (all_cons fact47 (all_cons fact48 (all_cons fact49 (all_cons fact50 (all_cons fact51 (all_cons fact52 (all_cons fact53 (all_cons fact54 (all_cons fact55 (all_cons fact56 (all_cons fact57 (all_cons fact58 (all_cons fact59 (all_cons fact60 (all_cons fact61 (all_cons fact62 (all_cons fact63 (all_cons fact64 (all_cons fact65 (all_cons fact66 (all_cons fact67 (all_cons fact68 (all_cons fact69 (all_cons fact70 (all_cons fact71 (all_cons fact72 (all_cons fact73 (all_cons fact74 (all_cons fact75 (all_cons fact76 (all_cons fact77 (all_cons fact78 (all_cons fact79 (all_cons fact80 (all_cons fact81 (all_cons fact82 (all_cons fact83 (all_cons fact84 (all_cons fact85 (all_cons fact86 (all_cons fact87 (all_cons fact88 (all_cons fact89 (all_cons fact90 (all_cons fact91 (all_cons fact92 (all_cons fact93 (all_cons fact94 (all_cons fact95 (all_cons fact96 (all_cons fact97 (all_cons fact98 (all_cons fact99 (all_cons fact100 (all_cons fact101 (all_cons fact102 (all_cons fact103 (all_cons fact104 (all_cons fact105 (all_cons fact106 (all_cons fact107 (all_cons fact108 (all_cons fact109 (all_cons fact110 (all_cons fact111 (all_cons fact112 all_nil)))))))))))))))))))))))))))))))))))))))))))))))))))))))))))))))))))))))))))))))))))))))))))))))))))))))))))))))))
end p8
set_option maxRecDepth 100000 in
theorem spec8_0 : NatOk Try.prog (specNat (spV)) :=
  spec_of_check good (facts := p8.facts) p8.facts_ok (anns := annV) (plainAnns_ok _ (by kernel_rfl)) (nats := natl9) natl9_ok (n := 3000) (by kernel_rfl)
def natl10 : List Nat1 := specNat (spV) :: natl9
theorem natl10_ok : ∀ x ∈ natl10, NatOk Try.prog x := by
  intro x hx
  rcases List.mem_cons.1 hx with rfl | hx
  · exact spec8_0
  exact natl9_ok x hx

end
end Go.Proofs.Ytoicbojdnjcmiaa.viewEncodes

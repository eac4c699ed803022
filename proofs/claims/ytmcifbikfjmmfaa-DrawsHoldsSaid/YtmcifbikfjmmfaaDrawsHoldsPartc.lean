/-
  DrawsHolds: contracts of functions, part 3.
-/
import Derived.Test.YtmcifbikfjmmfaaRows
import Derived.Test.YtmcifbikfjmmfaaNat
import Derived.WalkKit
import Derived.ProofKit
import Derived.OpenShut
import Derived.ChangeOld
import Derived.Below
import Derived.KernelRfl
import Derived.Lib.SmallJoins
import Derived.Test.YtmcifbikfjmmfaaDrawsHoldsPartb
namespace Go.Proofs.Ytmcifbikfjmmfaa.drawsHolds
open Go.ChangeShapes Go.WideShapes Go.ChangeAt Go.RowKit
open Go.SX
set_option linter.unusedVariables false
set_option linter.unusedSimpArgs false
set_option maxRecDepth 100000
noncomputable section
abbrev X0 : E := .var 3
abbrev X1 : E := .var 0
abbrev X2 : E := .cmp .eql X0 (.fn 0 X1)
abbrev X3 : E := .var 5
abbrev X4 : E := .not (.cmp .lss X0 X3)
abbrev X5 : E := .var 2
abbrev X6 : E := .cmp .eql X0 (.fn 0 X5)
abbrev X7 : E := .and X2 (.and X4 X6)
abbrev X8 : E := .imp X7 (.not (.cmp .lss (.fn 7 (.pr X0 X3)) (.int 0)))
abbrev X9 : E := .cmp .lss X3 (.int 0)
abbrev X10 : E := .not X9
abbrev X11 : E := .cmp .lss (.int 300) X0
abbrev X12 : E := .not X11
abbrev X13 : E := .cmp .lss X0 (.int 0)
abbrev X14 : E := .not X13
abbrev X15 : E := .and X14 X6
abbrev X16 : E := .and X12 X15
abbrev X17 : E := .and X10 X16
abbrev X18 : E := .and X2 X17
abbrev X19 : E := .imp X18 (.not (.cmp .lss (.int 2147483648) (.fn 7 (.pr X0 X3))))
abbrev X20 : E := .var 1
abbrev X21 : E := .var 6
abbrev X22 : E := .cmp .lss (.fn 9 (.pr X20 (.int 4))) X21
abbrev X23 : E := .not X22
abbrev X24 : E := .imp X23 (.not (.cmp .lss X0 (.fn 6 (.pr X3 (.fn 7 (.pr X0 X3))))))
abbrev X25 : E := .cmp .eql (.var 4) X3
abbrev X26 : E := .ar .sub .i64 X0 X3
abbrev X27 : E := .cmp .lss X26 (.int 1)
abbrev X28 : E := .not X27
abbrev X29 : E := .not (.cmp .lss (.var 4) X0)
abbrev X30 : E := .and X2 (.and X4 X29)
abbrev X31 : E := .and X28 X30
abbrev X32 : E := .cmp .lss (.int 65536) (.fn 7 (.pr X0 X3))
abbrev X33 : E := .not X32
abbrev X34 : E := .imp X18 X33
abbrev X35 : E := .cmp .lss (.fn 1 (.pr X20 (.fn 6 (.pr (.fn 8 (.pr X21 (.int 4))) (.int 1))))) (.int 1)
abbrev X36 : E := .not X35
abbrev X37 : E := .cmp .lss (.int 4294967296) (.fn 1 (.pr X20 (.fn 6 (.pr (.fn 8 (.pr X21 (.int 4))) (.int 1)))))
abbrev X38 : E := .not X37
abbrev X39 : E := .and X36 X38
abbrev X40 : E := .wr .u64 (.fn 1 (.pr X20 (.fn 6 (.pr (.fn 8 (.pr X21 (.int 4))) (.int 1)))))
abbrev X41 : E := .cmp .lss X21 (.fn 9 (.pr X20 (.int 4)))
abbrev X42 : E := .not (.cmp .lss X21 (.int 0))
abbrev X43 : E := .cmp .lss (.int 40) (.fn 9 (.pr X20 (.int 4)))
abbrev X44 : E := .not X43
abbrev X45 : E := .and X42 X44
abbrev X46 : E := .and X41 X45
abbrev X47 : E := .ar .add .i64 X21 (.int 1)
abbrev X48 : E := .cmp .lss X47 (.int 0)
abbrev X49 : E := .not X48
abbrev X50 : E := .imp X46 X49
abbrev X51 : E := .and X25 X30
abbrev X52 : E := .cmp .eql X26 (.int 0)
abbrev X53 : E := .imp X51 X52
abbrev X54 : E := .fn 131 X5
abbrev X55 : E := .and X38 X31
abbrev X56 : E := .and X36 X55
abbrev X57 : E := .and X25 X56
abbrev X58 : E := .and X54 X57
abbrev X59 : E := .ar .rem .u64 (.fn 1 (.pr X5 X3)) X40
abbrev X60 : E := .wr .i64 X59
abbrev X61 : E := .cmp .eql X60 (.int 0)
abbrev X62 : E := .and X54 X39
abbrev X63 : E := .and X12 X6
abbrev X64 : E := .and X29 X63
abbrev X65 : E := .and X10 X64
abbrev X66 : E := .and X4 X65
abbrev X67 : E := .and X2 X66
abbrev X68 : E := .and X25 X67
abbrev X69 : E := .ar .add .i64 X3 X26
abbrev X70 : E := .cmp .eql X69 (.fn 0 X1)
abbrev X71 : E := .imp X68 X70
abbrev X72 : E := .and X41 X42
abbrev X73 : E := .cmp .lss (.fn 9 (.pr X20 (.int 4))) X47
abbrev X74 : E := .not X73
abbrev X75 : E := .imp X72 X74
abbrev X76 : E := .and X2 (.and X4 X17)
abbrev X77 : E := .ar .sub .i64 (.fn 7 (.pr X0 X3)) (.int 0)
abbrev X78 : E := .cmp .eql X26 X77
abbrev X79 : E := .imp X76 X78
abbrev X80 : E := .cmp .lss (.fn 7 (.pr (.fn 9 (.pr X20 (.int 4))) X47)) (.fn 7 (.pr (.fn 9 (.pr X20 (.int 4))) X21))
abbrev X81 : E := .imp X46 X80
abbrev X82 : E := .imp X76 X70
abbrev X83 : E := .cmp .lss X77 (.int 1)
abbrev X84 : E := .cmp .lss (.int 0) (.fn 7 (.pr X0 X3))
abbrev X85 : E := .cmp .lss (.fn 7 (.pr (.fn 9 (.pr X20 (.int 4))) X47)) (.int 0)
abbrev X86 : E := .not X85
abbrev X87 : E := .imp X72 X86
abbrev X88 : E := .and X38 (.and X27 (.and (.not X83) X76))
abbrev X89 : E := .and X36 X88
abbrev X90 : E := .ar .rem .u64 (.fn 1 (.pr (.fn 4 (.pr X5 (.pr X3 (.fn 6 (.pr X3 (.fn 7 (.pr X0 X3))))))) (.int 0))) X40
abbrev X91 : E := .wr .i64 X90
abbrev X92 : E := .cmp .eql X91 (.int 0)
abbrev X93 : E := .and X10 X6
abbrev X94 : E := .and X2 X93
abbrev X95 : E := .pr (.fn 4 (.pr X5 (.pr X3 (.fn 6 (.pr X3 (.fn 7 (.pr X0 X3))))))) (.pr X5 X3)
abbrev X96 : E := .fn 111 X95
abbrev X97 : E := .ar .add .i64 X3 (.int 1)
abbrev X98 : E := .ar .sub .i64 X0 X97
abbrev X99 : E := .var 8
abbrev X100 : E := .cmp .eql X99 (.fn 1 (.pr X20 (.fn 6 (.pr (.fn 8 (.pr X21 (.int 4))) (.int 2)))))
abbrev X101 : E := .not (.cmp .lss (.fn 1 (.pr X20 (.fn 6 (.pr (.fn 8 (.pr X21 (.int 4))) (.int 2))))) (.int 1))
abbrev X102 : E := .cmp .eql X99 (.int 0)
abbrev X103 : E := .var 12
abbrev X104 : E := .cmp .eql X103 (.fn 1 (.pr X20 (.fn 6 (.pr (.fn 8 (.pr X21 (.int 4))) (.int 2)))))
abbrev X105 : E := .fn 132 (.pr (.fn 1 (.pr X20 (.fn 6 (.pr (.fn 8 (.pr X21 (.int 4))) (.int 2))))) (.fn 1 (.pr X20 (.fn 6 (.pr (.fn 8 (.pr X21 (.int 4))) (.int 1))))))
abbrev X106 : E := .not X105
abbrev X107 : E := .and X106 X105
abbrev X108 : E := .cmp .lss (.fn 7 (.pr X0 X3)) (.fn 1 (.pr X20 (.fn 6 (.pr (.fn 8 (.pr X21 (.int 4))) (.int 2)))))
abbrev X109 : E := .cmp .eql (.fn 1 (.pr X20 (.fn 6 (.pr (.fn 8 (.pr X21 (.int 4))) (.int 2))))) (.int 0)
abbrev X110 : E := .and X101 X109
abbrev X111 : E := .cmp .lss (.fn 7 (.pr (.fn 7 (.pr X0 X3)) (.int 0))) (.fn 1 (.pr X20 (.fn 6 (.pr (.fn 8 (.pr X21 (.int 4))) (.int 2)))))
abbrev X112 : E := .cmp .lss (.fn 7 (.pr (.int 0) (.int 0))) (.fn 1 (.pr X20 (.fn 6 (.pr (.fn 8 (.pr X21 (.int 4))) (.int 2)))))
abbrev X113 : E := .cmp .lss (.int 0) (.fn 1 (.pr X20 (.fn 6 (.pr (.fn 8 (.pr X21 (.int 4))) (.int 2)))))
abbrev X114 : E := .mn (.fn 9 (.pr X20 (.int 4))) (.int 41)
abbrev X115 : E := .fn 130 (.pr X20 X114)
abbrev X116 : E := .cmp .eql (.fn 1 (.pr X20 (.fn 6 (.pr (.fn 8 (.pr X21 (.int 4))) (.int 0))))) (.int 2)
abbrev X117 : E := .imp (.fn 27 (.pr (.fn 23 (.pr (.int 3) (.fn 23 (.pr (.int 3) (.fn 23 (.pr (.int 3) (.fn 23 (.pr (.fn 23 (.pr (.int 3) (.fn 10 (.int 0)))) (.fn 10 (.int 0)))))))))) X20)) (.fn 131 (.fn 10 (.int 0)))
abbrev X118 : E := .cmp .eql (.fn 1 (.pr X20 (.fn 6 (.pr (.fn 8 (.pr X21 (.int 4))) (.int 0))))) (.int 0)
abbrev X119 : E := .not X118
abbrev X120 : E := .and X119 X116
abbrev X121 : E := .and X106 X120
abbrev X122 : E := .and X105 X121
abbrev X123 : E := .not X113
abbrev X124 : E := .cmp .eql (.fn 7 (.pr X0 X3)) (.int 0)
abbrev X125 : E := .var 7
abbrev X126 : E := .cmp .eql X125 X3
abbrev X127 : E := .var 10
abbrev X128 : E := .cmp .eql X127 (.fn 6 (.pr X3 (.fn 1 (.pr X20 (.fn 6 (.pr (.fn 8 (.pr X21 (.int 4))) (.int 2)))))))
abbrev X129 : E := .cmp .eql X99 (.fn 0 X125)
abbrev X130 : E := .not X108
abbrev X131 : E := .and X2 (.and X4 (.and X29 (.and X6 (.and X25 (.and X128 (.and X129 (.and X100 (.and X101 X130))))))))
abbrev X132 : E := .cmp .lss X99 (.int 0)
abbrev X133 : E := .not X132
abbrev X134 : E := .fn 131 (.fn 4 (.pr X5 (.pr X3 (.fn 6 (.pr X3 (.fn 7 (.pr X0 X3)))))))
abbrev X135 : E := .imp X54 X134
abbrev X136 : E := .cmp .eql X26 (.fn 7 (.pr X0 X3))
abbrev X137 : E := .cmp .eql (.fn 7 (.pr X0 X3)) (.fn 0 (.fn 4 (.pr X5 (.pr X3 (.fn 6 (.pr X3 (.fn 7 (.pr X0 X3))))))))
abbrev X138 : E := .cmp .eql (.fn 6 (.pr (.int 0) X3)) X3
abbrev X139 : E := .pr (.fn 1 (.pr X20 (.fn 6 (.pr (.fn 8 (.pr X21 (.int 4))) (.int 2))))) (.pr (.fn 1 (.pr X20 (.fn 6 (.pr (.fn 8 (.pr X21 (.int 4))) (.int 1))))) (.pr X5 X3))
abbrev X140 : E := .cmp .eql (.var 14) (.fn 6 (.pr (.int 0) (.fn 1 (.pr X20 (.fn 6 (.pr (.fn 8 (.pr X21 (.int 4))) (.int 2)))))))
abbrev X141 : E := .var 11
abbrev X142 : E := .cmp .eql X103 (.fn 0 X141)
abbrev X143 : E := .pr (.fn 10 (.int 0)) (.int 0)
abbrev X144 : E := .pr (.fn 10 (.int 0)) (.pr X5 X3)
abbrev X145 : E := .fn 111 X144
abbrev X146 : E := .cmp .lss (.int 300) (.fn 7 (.pr X0 X3))
abbrev X147 : E := .not X146
abbrev X148 : E := .var 30
abbrev X149 : E := .var 26
abbrev X150 : E := .cmp .eql X148 (.fn 0 X149)
abbrev X151 : E := .cmp .eql X148 (.fn 1 (.pr X20 (.fn 6 (.pr (.fn 8 (.pr X21 (.int 4))) (.int 2)))))
abbrev X152 : E := .var 29
abbrev X153 : E := .cmp .lss X152 X148
abbrev X154 : E := .cmp .lss (.int 0) X152
abbrev X155 : E := .cmp .lss (.int 300) X148
abbrev X156 : E := .not X155
abbrev X157 : E := .and X106 (.and X150 (.and X151 (.and X153 (.and X154 X156))))
abbrev X158 : E := .ar .sub .i64 X152 (.int 1)
abbrev X159 : E := .not (.cmp .lss X152 (.int 0))
abbrev X160 : E := .not X154
abbrev X161 : E := .and X159 X160
abbrev X162 : E := .ar .add .i64 X152 (.int 1)
abbrev X163 : E := .cmp .lss X162 (.int 0)
abbrev X164 : E := .not X163
abbrev X165 : E := .fn 102 (.pr X149 X139)
abbrev X166 : E := .and X153 X156
abbrev X167 : E := .and X151 X166
abbrev X168 : E := .and X150 X167
abbrev X169 : E := .and X106 X168
abbrev X170 : E := .and X165 X169
abbrev X171 : E := .and X159 X170
abbrev X172 : E := .var 22
abbrev X173 : E := .cmp .eql X172 (.fn 7 (.pr X0 X3))
abbrev X174 : E := .var 25
abbrev X175 : E := .var 20
abbrev X176 : E := .cmp .eql (.fn 6 (.pr X174 X3)) X175
abbrev X177 : E := .cmp .lss X172 X174
abbrev X178 : E := .not X177
abbrev X179 : E := .cmp .lss X174 (.int 0)
abbrev X180 : E := .not X179
abbrev X181 : E := .cmp .eql (.var 24) (.fn 7 (.pr X0 X3))
abbrev X182 : E := .and X2 X6
abbrev X183 : E := .and X180 (.and X181 (.and X173 X182))
abbrev X184 : E := .and X178 X183
abbrev X185 : E := .and X176 X184
abbrev X186 : E := .ar .sub .i64 X0 X175
abbrev X187 : E := .cmp .eql X127 (.fn 6 (.pr (.int 0) (.fn 1 (.pr X20 (.fn 6 (.pr (.fn 8 (.pr X21 (.int 4))) (.int 2)))))))
abbrev X188 : E := .and X106 (.and X140 (.and X142 X104))
abbrev X189 : E := .and X173 X18
abbrev X190 : E := .and X181 X189
abbrev X191 : E := .and X180 X190
abbrev X192 : E := .and X178 X191
abbrev X193 : E := .and X176 X192
abbrev X194 : E := .cmp .eql X186 (.ar .sub .i64 X172 X174)
abbrev X195 : E := .cmp .lss X103 (.int 0)
abbrev X196 : E := .not X195
abbrev X197 : E := .and X104 X12
abbrev X198 : E := .and X142 X197
abbrev X199 : E := .and X140 X198
abbrev X200 : E := .and X130 X199
abbrev X201 : E := .and X106 X200
abbrev X202 : E := .and X100 X201
abbrev X203 : E := .and X129 X202
abbrev X204 : E := .and X128 X203
abbrev X205 : E := .and X6 X204
abbrev X206 : E := .and X14 X205
abbrev X207 : E := .and X10 X206
abbrev X208 : E := .and X2 X207
abbrev X209 : E := .and X160 X156
abbrev X210 : E := .and X153 X209
abbrev X211 : E := .and X150 X210
abbrev X212 : E := .and X106 X211
abbrev X213 : E := .and X159 X212
abbrev X214 : E := .cmp .eql (.ar .add .i64 X175 X186) (.fn 0 X1)
abbrev X215 : E := .and X128 (.and X129 (.and X100 (.and X101 X188)))
abbrev X216 : E := .cmp .lss (.fn 7 (.pr X148 X162)) (.fn 7 (.pr X148 X152))
abbrev X217 : E := .and X181 X94
abbrev X218 : E := .and X180 X217
abbrev X219 : E := .and X176 X218
abbrev X220 : E := .cmp .lss (.fn 7 (.pr X148 X162)) (.int 0)
abbrev X221 : E := .not X220
abbrev X222 : E := .and X104 X123
abbrev X223 : E := .and X142 X222
abbrev X224 : E := .and X140 X223
abbrev X225 : E := .and X106 X224
abbrev X226 : E := .and X101 X225
abbrev X227 : E := .and X100 X226
abbrev X228 : E := .and X129 X227
abbrev X229 : E := .and X128 X228
abbrev X230 : E := .and X140 (.and X142 (.and X104 X182))
abbrev X231 : E := .and X130 X230
abbrev X232 : E := .and X106 X231
abbrev X233 : E := .and X100 X232
abbrev X234 : E := .and X129 X233
abbrev X235 : E := .and X128 X234
abbrev X236 : E := .cmp .lss (.fn 0 (.fn 1 (.pr X20 (.fn 6 (.pr (.fn 8 (.pr X21 (.int 4))) (.int 3)))))) X152
abbrev X237 : E := .not X236
abbrev X238 : E := .cmp .eql (.fn 0 (.fn 1 (.pr X20 (.fn 6 (.pr (.fn 8 (.pr X21 (.int 4))) (.int 3)))))) (.int 0)
abbrev X239 : E := .var 28
abbrev X240 : E := .fn 140 (.pr X239 (.pr (.fn 1 (.pr X20 (.fn 6 (.pr (.fn 8 (.pr X21 (.int 4))) (.int 3))))) (.pr X152 X143)))
abbrev X241 : E := .and X33 X7
abbrev X242 : E := .imp X241 X78
abbrev X243 : E := .imp X23 X138
abbrev X244 : E := .imp X46 X74
abbrev X245 : E := .imp X18 X147
abbrev X246 : E := .imp (.fn 27 (.pr (.fn 23 (.pr (.int 3) (.fn 23 (.pr (.int 3) (.fn 23 (.pr (.int 3) (.fn 23 (.pr (.fn 23 (.pr (.int 3) (.fn 10 (.int 0)))) (.fn 10 (.int 0)))))))))) X20)) (.fn 140 (.pr (.fn 10 (.int 0)) (.pr (.fn 1 (.pr X20 (.fn 6 (.pr (.fn 8 (.pr X21 (.int 4))) (.int 3))))) (.pr (.int 0) X143))))
abbrev X247 : E := .cmp .lss X152 (.fn 0 (.fn 1 (.pr X20 (.fn 6 (.pr (.fn 8 (.pr X21 (.int 4))) (.int 3))))))
abbrev X248 : E := .imp X46 X86
abbrev X249 : E := .and X247 X238
abbrev X250 : E := .and X115 X249
abbrev X251 : E := .and X159 X250
abbrev X252 : E := .and X240 X251
abbrev X253 : E := .cmp .lss (.fn 0 (.fn 1 (.pr X20 (.fn 6 (.pr (.fn 8 (.pr X21 (.int 4))) (.int 3)))))) X162
abbrev X254 : E := .not X253
abbrev X255 : E := .ar .add .i64 (.fn 32 (.pr X239 (.pr (.fn 1 (.pr (.fn 1 (.pr X20 (.fn 6 (.pr (.fn 8 (.pr X21 (.int 4))) (.int 3))))) X152)) (.int 0)))) (.int 1)
abbrev X256 : E := .pr (.fn 1 (.pr X20 (.fn 6 (.pr (.fn 8 (.pr X21 (.int 4))) (.int 3))))) (.pr X162 X143)
abbrev X257 : E := .pr (.fn 34 (.pr X239 (.pr (.fn 1 (.pr (.fn 1 (.pr X20 (.fn 6 (.pr (.fn 8 (.pr X21 (.int 4))) (.int 3))))) X152)) X255))) X256
abbrev X258 : E := .fn 140 X257
abbrev X259 : E := .cmp .lss (.fn 7 (.pr (.fn 0 (.fn 1 (.pr X20 (.fn 6 (.pr (.fn 8 (.pr X21 (.int 4))) (.int 3)))))) X162)) (.fn 7 (.pr (.fn 0 (.fn 1 (.pr X20 (.fn 6 (.pr (.fn 8 (.pr X21 (.int 4))) (.int 3)))))) X152))
abbrev X260 : E := .and X240 X193
abbrev X261 : E := .cmp .lss (.fn 7 (.pr (.fn 0 (.fn 1 (.pr X20 (.fn 6 (.pr (.fn 8 (.pr X21 (.int 4))) (.int 3)))))) X162)) (.int 0)
abbrev X262 : E := .not X261
abbrev X263 : E := .cmp .lss (.int 60) (.fn 0 (.fn 1 (.pr X20 (.fn 6 (.pr (.fn 8 (.pr X21 (.int 4))) (.int 3))))))
abbrev X264 : E := .not X263
abbrev X265 : E := .cmp .lss (.fn 7 (.pr X0 X3)) (.fn 7 (.pr (.fn 0 (.fn 1 (.pr X20 (.fn 6 (.pr (.fn 8 (.pr X21 (.int 4))) (.int 3)))))) (.int 1)))
abbrev X266 : E := .cmp .eql (.fn 0 (.fn 1 (.pr X20 (.fn 6 (.pr (.fn 8 (.pr X21 (.int 4))) (.int 3)))))) (.fn 0 X125)
abbrev X267 : E := .cmp .eql (.var 9) (.fn 6 (.pr (.int 0) (.fn 7 (.pr (.fn 0 (.fn 1 (.pr X20 (.fn 6 (.pr (.fn 8 (.pr X21 (.int 4))) (.int 3)))))) (.int 1)))))
abbrev X268 : E := .cmp .lss (.int 0) (.fn 7 (.pr (.fn 0 (.fn 1 (.pr X20 (.fn 6 (.pr (.fn 8 (.pr X21 (.int 4))) (.int 3)))))) (.int 1)))
abbrev X269 : E := .cmp .eql (.var 9) (.fn 6 (.pr X3 (.fn 7 (.pr (.fn 0 (.fn 1 (.pr X20 (.fn 6 (.pr (.fn 8 (.pr X21 (.int 4))) (.int 3)))))) (.int 1)))))
abbrev X270 : E := .pr (.fn 1 (.pr X20 (.fn 6 (.pr (.fn 8 (.pr X21 (.int 4))) (.int 3))))) (.pr X5 X3)
abbrev X271 : E := .cmp .eql (.fn 0 (.fn 1 (.pr X20 (.fn 6 (.pr (.fn 8 (.pr X21 (.int 4))) (.int 3)))))) (.fn 0 X127)
abbrev X272 : E := .cmp .eql X103 (.fn 6 (.pr (.int 0) (.fn 7 (.pr (.fn 0 (.fn 1 (.pr X20 (.fn 6 (.pr (.fn 8 (.pr X21 (.int 4))) (.int 3)))))) (.int 1)))))
abbrev X273 : E := .and X2 (.and X4 (.and X29 X6))
abbrev X274 : E := .not X265
abbrev X275 : E := .and X6 X44
abbrev X276 : E := .and X2 X275
abbrev X277 : E := .and X42 X276
abbrev X278 : E := .cmp .lss (.fn 7 (.pr (.fn 7 (.pr X0 X3)) (.int 0))) (.fn 7 (.pr (.fn 0 (.fn 1 (.pr X20 (.fn 6 (.pr (.fn 8 (.pr X21 (.int 4))) (.int 3)))))) (.int 1)))
abbrev X279 : E := .pr X149 (.int 0)
abbrev X280 : E := .pr X152 X279
abbrev X281 : E := .pr (.fn 1 (.pr X20 (.fn 6 (.pr (.fn 8 (.pr X21 (.int 4))) (.int 3))))) X280
abbrev X282 : E := .pr X239 X281
abbrev X283 : E := .fn 140 X282
abbrev X284 : E := .cmp .lss (.fn 0 (.fn 1 (.pr X20 (.fn 6 (.pr (.fn 8 (.pr X21 (.int 4))) (.int 3)))))) (.int 1)
abbrev X285 : E := .not X284
abbrev X286 : E := .cmp .eql (.fn 0 (.fn 1 (.pr X20 (.fn 6 (.pr (.fn 8 (.pr X21 (.int 4))) (.int 3)))))) (.fn 0 X149)
abbrev X287 : E := .and X247 X264
abbrev X288 : E := .pr (.fn 1 (.pr X20 (.fn 6 (.pr (.fn 8 (.pr X21 (.int 4))) (.int 3))))) (.pr (.fn 0 (.fn 1 (.pr X20 (.fn 6 (.pr (.fn 8 (.pr X21 (.int 4))) (.int 3)))))) X143)
abbrev X289 : E := .and X44 X285
abbrev X290 : E := .and X42 X289
abbrev X291 : E := .and X247 X290
abbrev X292 : E := .and X115 X291
abbrev X293 : E := .and X41 X292
abbrev X294 : E := .and X286 X293
abbrev X295 : E := .and X159 X294
abbrev X296 : E := .and X283 X295
abbrev X297 : E := .var 40
abbrev X298 : E := .var 38
abbrev X299 : E := .var 41
abbrev X300 : E := .fn 140 (.pr X297 (.pr (.fn 1 (.pr X20 (.fn 6 (.pr (.fn 8 (.pr X21 (.int 4))) (.int 3))))) (.pr (.fn 0 (.fn 1 (.pr X20 (.fn 6 (.pr (.fn 8 (.pr X21 (.int 4))) (.int 3)))))) (.pr X298 X299))))
abbrev X301 : E := .cmp .lss X299 (.int 0)
abbrev X302 : E := .not X301
abbrev X303 : E := .cmp .eql (.fn 0 (.fn 1 (.pr X20 (.fn 6 (.pr (.fn 8 (.pr X21 (.int 4))) (.int 3)))))) (.fn 0 X298)
abbrev X304 : E := .cmp .lss X299 (.fn 0 (.fn 1 (.pr X20 (.fn 6 (.pr (.fn 8 (.pr X21 (.int 4))) (.int 3))))))
abbrev X305 : E := .ar .add .i64 X299 (.int 1)
abbrev X306 : E := .pr (.fn 0 (.fn 1 (.pr X20 (.fn 6 (.pr (.fn 8 (.pr X21 (.int 4))) (.int 3)))))) (.pr (.fn 10 (.int 0)) X299)
abbrev X307 : E := .pr (.fn 1 (.pr X20 (.fn 6 (.pr (.fn 8 (.pr X21 (.int 4))) (.int 3))))) X306
abbrev X308 : E := .pr X297 X307
abbrev X309 : E := .fn 140 X308
abbrev X310 : E := .and X41 (.and X115 (.and X247 X45))
abbrev X311 : E := .and X159 X310
abbrev X312 : E := .and X240 X311
abbrev X313 : E := .and X42 X285
abbrev X314 : E := .and X264 X313
abbrev X315 : E := .and (.fn 27 (.pr (.fn 23 (.pr (.int 3) (.fn 23 (.pr (.int 3) (.fn 23 (.pr (.int 3) (.fn 23 (.pr (.fn 23 (.pr (.int 3) (.fn 10 (.int 0)))) (.fn 10 (.int 0)))))))))) X20)) (.and X247 X314)
abbrev X316 : E := .and X304 X290
abbrev X317 : E := .and X115 X316
abbrev X318 : E := .and X41 X317
abbrev X319 : E := .and X303 X318
abbrev X320 : E := .and X302 X319
abbrev X321 : E := .and X300 X320
abbrev X322 : E := .and X271 X272
abbrev X323 : E := .and X266 (.and X274 X322)
abbrev X324 : E := .and X25 X323
abbrev X325 : E := .and X274 (.and X271 (.and X272 X182))
abbrev X326 : E := .and X269 X325
abbrev X327 : E := .and X266 X326
abbrev X328 : E := .ar .sub .i64 (.fn 32 (.pr X297 (.pr (.fn 1 (.pr X298 X299)) (.int 0)))) (.int 1)
abbrev X329 : E := .fn 140 (.pr (.var 52) (.pr (.fn 1 (.pr X20 (.fn 6 (.pr (.fn 8 (.pr X21 (.int 4))) (.int 3))))) (.pr (.fn 0 (.fn 1 (.pr X20 (.fn 6 (.pr (.fn 8 (.pr X21 (.int 4))) (.int 3)))))) (.pr (.var 50) (.fn 0 (.fn 1 (.pr X20 (.fn 6 (.pr (.fn 8 (.pr X21 (.int 4))) (.int 3))))))))))
abbrev X330 : E := .var 46
abbrev X331 : E := .cmp .eql X330 (.fn 7 (.pr X0 X3))
abbrev X332 : E := .var 49
abbrev X333 : E := .var 44
abbrev X334 : E := .cmp .eql (.fn 6 (.pr X332 X3)) X333
abbrev X335 : E := .cmp .lss X330 X332
abbrev X336 : E := .not X335
abbrev X337 : E := .cmp .lss X332 (.int 0)
abbrev X338 : E := .not X337
abbrev X339 : E := .cmp .eql (.var 48) (.fn 7 (.pr X0 X3))
abbrev X340 : E := .and X338 (.and X339 (.and X331 X182))
abbrev X341 : E := .and X336 X340
abbrev X342 : E := .and X334 X341
abbrev X343 : E := .ar .sub .i64 X0 X333
abbrev X344 : E := .fn 140 (.pr (.var 52) X288)
abbrev X345 : E := .and X266 (.and X269 X322)
abbrev X346 : E := .and X331 X18
abbrev X347 : E := .and X339 X346
abbrev X348 : E := .and X338 X347
abbrev X349 : E := .and X336 X348
abbrev X350 : E := .and X334 X349
abbrev X351 : E := .and X329 X350
abbrev X352 : E := .cmp .eql X343 (.ar .sub .i64 X330 X332)
abbrev X353 : E := .and X344 X350
abbrev X354 : E := .cmp .eql (.ar .add .i64 X333 X343) (.fn 0 X1)
abbrev X355 : E := .and X339 X94
abbrev X356 : E := .and X338 X355
abbrev X357 : E := .and X334 X356
abbrev X358 : E := .and X344 X46
namespace l0_0
def f0 : E := X8
theorem fact0 (ρ : Env) : E.B ρ f0 = true := by
  unfold f0
  rw [sm_B_imp]
  simp only [sm_B_and]
  rintro ⟨p0, p1, p2⟩
  try simp only [smA, smW] at *
  have n2 := @fn0_nn ρ X1
  have n4 := @fn0_nn ρ X5
  omega
def f1 : E := X19
theorem fact1 (ρ : Env) : E.B ρ f1 = true := by
  unfold f1
  rw [sm_B_imp]
  simp only [sm_B_and]
  rintro ⟨p0, p1, p2, p3, p4⟩
  try simp only [smA, smW] at *
  have n2 := @fn0_nn ρ X1
  have n4 := @fn0_nn ρ X5
  omega
def f2 : E := X24
theorem fact2 (ρ : Env) : E.B ρ f2 = true := by
  unfold f2
  rw [sm_B_imp]
  intro p0
  try simp only [smA, smW] at *
  omega
def f3 : E := (.imp (.and X25 X31) (.cmp .lss X3 X0))
theorem fact3 (ρ : Env) : E.B ρ f3 = true := by
  unfold f3
  rw [sm_B_imp]
  simp only [sm_B_and]
  rintro ⟨p0, p1, p2, p3, p4⟩
  try simp only [smA, smW] at *
  have n4 := @fn0_nn ρ X1
  obtain ⟨a4, ea4, qa4⟩ := cs_i64 ((E.I ρ X0) - (E.I ρ X3))
  try simp only [ea4] at *
  omega
def f4 : E := X34
theorem fact4 (ρ : Env) : E.B ρ f4 = true := by
  unfold f4
  rw [sm_B_imp]
  simp only [sm_B_and]
  rintro ⟨p0, p1, p2, p3, p4⟩
  try simp only [smA, smW] at *
  have n2 := @fn0_nn ρ X1
  have n4 := @fn0_nn ρ X5
  omega
def f5 : E := (.imp X39 (.not (.cmp .eql X40 (.int 0))))
theorem fact5 (ρ : Env) : E.B ρ f5 = true := by
  unfold f5
  rw [sm_B_imp]
  simp only [sm_B_and]
  rintro ⟨p0, p1⟩
  try simp only [smA, smW] at *
  obtain ⟨a1, ea1, qa1⟩ := cs_u64 (E.I ρ (.fn 1 (.pr X20 (.fn 6 (.pr (.fn 8 (.pr X21 (.int 4))) (.int 1))))))
  try simp only [ea1] at *
  omega
def f6 : E := (.imp (.and X28 X7) (.cmp .lss X3 X0))
theorem fact6 (ρ : Env) : E.B ρ f6 = true := by
  unfold f6
  rw [sm_B_imp]
  simp only [sm_B_and]
  rintro ⟨p0, p1, p2, p3⟩
  try simp only [smA, smW] at *
  have n3 := @fn0_nn ρ X1
  have n4 := @fn0_nn ρ X5
  obtain ⟨a4, ea4, qa4⟩ := cs_i64 ((E.I ρ X0) - (E.I ρ X3))
  try simp only [ea4] at *
  omega
def f7 : E := X50
theorem fact7 (ρ : Env) : E.B ρ f7 = true := by
  unfold f7
  rw [sm_B_imp]
  simp only [sm_B_and]
  rintro ⟨p0, p1, p2⟩
  try simp only [smA, smW] at *
  obtain ⟨a2, ea2, qa2⟩ := cs_i64 ((E.I ρ X21) + (1))
  try simp only [ea2] at *
  omega
def f8 : E := X53
theorem fact8 (ρ : Env) : E.B ρ f8 = true := by
  unfold f8
  rw [sm_B_imp]
  simp only [sm_B_and]
  rintro ⟨p0, p1, p2, p3⟩
  try simp only [smA, smW] at *
  have n4 := @fn0_nn ρ X1
  obtain ⟨a4, ea4, qa4⟩ := cs_i64 ((E.I ρ X0) - (E.I ρ X3))
  try simp only [ea4] at *
  omega
def f9 : E := (.imp X58 (.not X61))
theorem fact9 (ρ : Env) : E.B ρ f9 = true := by
  unfold f9
  rw [sm_B_imp]
  simp only [sm_B_and]
  rintro ⟨p0, p1, p2, p3, p4, p5, p6, p7⟩
  have hn0 := t131_nth p0 X3
  try simp only [smA, smW] at *
  have n5 := @fn0_nn ρ X1
  obtain ⟨a6, ea6, qa6⟩ := cs_i64 ((E.I ρ X0) - (E.I ρ X3))
  try simp only [ea6] at *
  obtain ⟨a7, ea7, qa7⟩ := cs_u64 (E.I ρ (.fn 1 (.pr X20 (.fn 6 (.pr (.fn 8 (.pr X21 (.int 4))) (.int 1))))))
  try simp only [ea7] at *
  obtain ⟨a8, ea8, qa8⟩ := cs_rem (E.I ρ (.fn 1 (.pr X5 X3))) a7
  try simp only [ea8] at *
  obtain ⟨a9, ea9, qa9⟩ := cs_i64 a8
  try simp only [ea9] at *
  omega
def f10 : E := (.imp X62 (.cmp .lss X60 (.fn 1 (.pr X20 (.fn 6 (.pr (.fn 8 (.pr X21 (.int 4))) (.int 1)))))))
theorem fact10 (ρ : Env) : E.B ρ f10 = true := by
  unfold f10
  rw [sm_B_imp]
  simp only [sm_B_and]
  rintro ⟨p0, p1, p2⟩
  have hn0 := t131_nth p0 X3
  try simp only [smA, smW] at *
  obtain ⟨a2, ea2, qa2⟩ := cs_u64 (E.I ρ (.fn 1 (.pr X20 (.fn 6 (.pr (.fn 8 (.pr X21 (.int 4))) (.int 1))))))
  try simp only [ea2] at *
  obtain ⟨a3, ea3, qa3⟩ := cs_rem (E.I ρ (.fn 1 (.pr X5 X3))) a2
  try simp only [ea3] at *
  obtain ⟨a4, ea4, qa4⟩ := cs_i64 a3
  try simp only [ea4] at *
  omega
def f11 : E := X71
theorem fact11 (ρ : Env) : E.B ρ f11 = true := by
  unfold f11
  rw [sm_B_imp]
  simp only [sm_B_and]
  rintro ⟨p0, p1, p2, p3, p4, p5, p6⟩
  try simp only [smA, smW] at *
  have n4 := @fn0_nn ρ X1
  have n5 := @fn0_nn ρ X5
  obtain ⟨a5, ea5, qa5⟩ := cs_i64 ((E.I ρ X0) - (E.I ρ X3))
  try simp only [ea5] at *
  obtain ⟨a6, ea6, qa6⟩ := cs_i64 ((E.I ρ X3) + a5)
  try simp only [ea6] at *
  omega
def f12 : E := (.imp X62 (.not (.cmp .lss X60 (.int 0))))
theorem fact12 (ρ : Env) : E.B ρ f12 = true := by
  unfold f12
  rw [sm_B_imp]
  simp only [sm_B_and]
  rintro ⟨p0, p1, p2⟩
  have hn0 := t131_nth p0 X3
  try simp only [smA, smW] at *
  obtain ⟨a2, ea2, qa2⟩ := cs_u64 (E.I ρ (.fn 1 (.pr X20 (.fn 6 (.pr (.fn 8 (.pr X21 (.int 4))) (.int 1))))))
  try simp only [ea2] at *
  obtain ⟨a3, ea3, qa3⟩ := cs_rem (E.I ρ (.fn 1 (.pr X5 X3))) a2
  try simp only [ea3] at *
  obtain ⟨a4, ea4, qa4⟩ := cs_i64 a3
  try simp only [ea4] at *
  omega
def f13 : E := X75
theorem fact13 (ρ : Env) : E.B ρ f13 = true := by
  unfold f13
  rw [sm_B_imp]
  simp only [sm_B_and]
  rintro ⟨p0, p1⟩
  try simp only [smA, smW] at *
  obtain ⟨a2, ea2, qa2⟩ := cs_i64 ((E.I ρ X21) + (1))
  try simp only [ea2] at *
  omega
def f14 : E := (.imp X58 X61)
theorem fact14 (ρ : Env) : E.B ρ f14 = true := by
  unfold f14
  rw [sm_B_imp]
  simp only [sm_B_and]
  rintro ⟨p0, p1, p2, p3, p4, p5, p6, p7⟩
  have hn0 := t131_nth p0 X3
  try simp only [smA, smW] at *
  have n5 := @fn0_nn ρ X1
  obtain ⟨a6, ea6, qa6⟩ := cs_i64 ((E.I ρ X0) - (E.I ρ X3))
  try simp only [ea6] at *
  obtain ⟨a7, ea7, qa7⟩ := cs_u64 (E.I ρ (.fn 1 (.pr X20 (.fn 6 (.pr (.fn 8 (.pr X21 (.int 4))) (.int 1))))))
  try simp only [ea7] at *
  obtain ⟨a8, ea8, qa8⟩ := cs_rem (E.I ρ (.fn 1 (.pr X5 X3))) a7
  try simp only [ea8] at *
  obtain ⟨a9, ea9, qa9⟩ := cs_i64 a8
  try simp only [ea9] at *
  omega
def f15 : E := X79
theorem fact15 (ρ : Env) : E.B ρ f15 = true := by
  unfold f15
  rw [sm_B_imp]
  simp only [sm_B_and]
  rintro ⟨p0, p1, p2, p3, p4, p5⟩
  try simp only [smA, smW] at *
  have n2 := @fn0_nn ρ X1
  have n4 := @fn0_nn ρ X5
  obtain ⟨a4, ea4, qa4⟩ := cs_i64 ((E.I ρ X0) - (E.I ρ X3))
  try simp only [ea4] at *
  obtain ⟨a5, ea5, qa5⟩ := cs_i64 (((E.I ρ X0) - (E.I ρ X3)) - (0))
  try simp only [ea5] at *
  omega
def f16 : E := X81
theorem fact16 (ρ : Env) : E.B ρ f16 = true := by
  unfold f16
  rw [sm_B_imp]
  simp only [sm_B_and]
  rintro ⟨p0, p1, p2⟩
  try simp only [smA, smW] at *
  obtain ⟨a2, ea2, qa2⟩ := cs_i64 ((E.I ρ X21) + (1))
  try simp only [ea2] at *
  omega
def f17 : E := (.imp X51 X27)
theorem fact17 (ρ : Env) : E.B ρ f17 = true := by
  unfold f17
  rw [sm_B_imp]
  simp only [sm_B_and]
  rintro ⟨p0, p1, p2, p3⟩
  try simp only [smA, smW] at *
  have n4 := @fn0_nn ρ X1
  obtain ⟨a4, ea4, qa4⟩ := cs_i64 ((E.I ρ X0) - (E.I ρ X3))
  try simp only [ea4] at *
  omega
def f18 : E := X82
theorem fact18 (ρ : Env) : E.B ρ f18 = true := by
  unfold f18
  rw [sm_B_imp]
  simp only [sm_B_and]
  rintro ⟨p0, p1, p2, p3, p4, p5⟩
  try simp only [smA, smW] at *
  have n2 := @fn0_nn ρ X1
  have n4 := @fn0_nn ρ X5
  obtain ⟨a4, ea4, qa4⟩ := cs_i64 ((E.I ρ X0) - (E.I ρ X3))
  try simp only [ea4] at *
  obtain ⟨a5, ea5, qa5⟩ := cs_i64 ((E.I ρ X3) + a4)
  try simp only [ea5] at *
  omega
def f19 : E := (.imp (.and (.not X83) X7) X84)
theorem fact19 (ρ : Env) : E.B ρ f19 = true := by
  unfold f19
  rw [sm_B_imp]
  simp only [sm_B_and]
  rintro ⟨p0, p1, p2, p3⟩
  try simp only [smA, smW] at *
  have n3 := @fn0_nn ρ X1
  have n4 := @fn0_nn ρ X5
  obtain ⟨a4, ea4, qa4⟩ := cs_i64 (((E.I ρ X0) - (E.I ρ X3)) - (0))
  try simp only [ea4] at *
  omega
def f20 : E := X87
theorem fact20 (ρ : Env) : E.B ρ f20 = true := by
  unfold f20
  rw [sm_B_imp]
  simp only [sm_B_and]
  rintro ⟨p0, p1⟩
  try simp only [smA, smW] at *
  obtain ⟨a2, ea2, qa2⟩ := cs_i64 ((E.I ρ X21) + (1))
  try simp only [ea2] at *
  omega
def f21 : E := (.imp X89 X92)
theorem fact21 (ρ : Env) : E.B ρ f21 = true := by
  unfold f21
  rw [sm_B_imp]
  simp only [sm_B_and]
  rintro ⟨p0, p1, p2, p3, p4, p5, p6, p7, p8, p9⟩
  try simp only [smA, smW] at *
  have n4 := @fn0_nn ρ X1
  have n5 := @fn0_nn ρ X5
  obtain ⟨a6, ea6, qa6⟩ := cs_i64 ((E.I ρ X0) - (E.I ρ X3))
  try simp only [ea6] at *
  obtain ⟨a7, ea7, qa7⟩ := cs_i64 (((E.I ρ X0) - (E.I ρ X3)) - (0))
  try simp only [ea7] at *
  obtain ⟨a8, ea8, qa8⟩ := cs_u64 (E.I ρ (.fn 1 (.pr X20 (.fn 6 (.pr (.fn 8 (.pr X21 (.int 4))) (.int 1))))))
  try simp only [ea8] at *
  obtain ⟨a9, ea9, qa9⟩ := cs_rem (E.I ρ (.fn 1 (.pr (.fn 4 (.pr X5 (.pr X3 (.fn 6 (.pr X3 (.fn 7 (.pr X0 X3))))))) (.int 0)))) a8
  try simp only [ea9] at *
  obtain ⟨a10, ea10, qa10⟩ := cs_i64 a9
  try simp only [ea10] at *
  omega
def f22 : E := (.imp X89 (.not X92))
theorem fact22 (ρ : Env) : E.B ρ f22 = true := by
  unfold f22
  rw [sm_B_imp]
  simp only [sm_B_and]
  rintro ⟨p0, p1, p2, p3, p4, p5, p6, p7, p8, p9⟩
  try simp only [smA, smW] at *
  have n4 := @fn0_nn ρ X1
  have n5 := @fn0_nn ρ X5
  obtain ⟨a6, ea6, qa6⟩ := cs_i64 ((E.I ρ X0) - (E.I ρ X3))
  try simp only [ea6] at *
  obtain ⟨a7, ea7, qa7⟩ := cs_i64 (((E.I ρ X0) - (E.I ρ X3)) - (0))
  try simp only [ea7] at *
  obtain ⟨a8, ea8, qa8⟩ := cs_u64 (E.I ρ (.fn 1 (.pr X20 (.fn 6 (.pr (.fn 8 (.pr X21 (.int 4))) (.int 1))))))
  try simp only [ea8] at *
  obtain ⟨a9, ea9, qa9⟩ := cs_rem (E.I ρ (.fn 1 (.pr (.fn 4 (.pr X5 (.pr X3 (.fn 6 (.pr X3 (.fn 7 (.pr X0 X3))))))) (.int 0)))) a8
  try simp only [ea9] at *
  obtain ⟨a10, ea10, qa10⟩ := cs_i64 a9
  try simp only [ea10] at *
  omega
def f23 : E := (.imp (.and X27 X76) X83)
theorem fact23 (ρ : Env) : E.B ρ f23 = true := by
  unfold f23
  rw [sm_B_imp]
  simp only [sm_B_and]
  rintro ⟨p0, p1, p2, p3, p4, p5, p6⟩
  try simp only [smA, smW] at *
  have n3 := @fn0_nn ρ X1
  have n4 := @fn0_nn ρ X5
  obtain ⟨a4, ea4, qa4⟩ := cs_i64 ((E.I ρ X0) - (E.I ρ X3))
  try simp only [ea4] at *
  obtain ⟨a5, ea5, qa5⟩ := cs_i64 (((E.I ρ X0) - (E.I ρ X3)) - (0))
  try simp only [ea5] at *
  omega
def f24 : E := (.imp (.and X54 X94) (.cmp .eql X91 X60))
theorem fact24 (ρ : Env) : E.B ρ f24 = true := by
  unfold f24
  rw [sm_B_imp]
  simp only [sm_B_and]
  rintro ⟨p0, p1, p2, p3⟩
  have hdg : E.I ρ (.fn 6 (.pr X3 (.fn 7 (.pr X0 X3)))) = E.I ρ (.fn 0 X5) := by
    have hn0 := t131_nth p0 X3
    try simp only [smA, smW] at *
    have n2 := @fn0_nn ρ X1
    have n4 := @fn0_nn ρ X5
    omega
  have hd : E.B ρ X96 = true := t111_sub hdg
  obtain ⟨h1, h2, h3⟩ : (0) ≤ (0) ∧ (0) ≤ E.I ρ X3 ∧ E.I ρ X3 = E.I ρ (.fn 6 (.pr X3 (.int 0))) := by
    have hn0 := t131_nth p0 X3
    try simp only [smA, smW] at *
    have n2 := @fn0_nn ρ X1
    have n4 := @fn0_nn ρ X5
    omega
  have g6 : E.I ρ (.fn 1 (.pr (.fn 4 (.pr X5 (.pr X3 (.fn 6 (.pr X3 (.fn 7 (.pr X0 X3))))))) (.int 0))) = E.I ρ (.fn 1 (.pr X5 X3)) := nth_drop hd (by (try simp only [sm_I_int]); omega) (by (try simp only [sm_I_int]); omega) h3
  rw [sm_B_eql]
  simp only [smA]
  rw [g6]
def f25 : E := (.imp (.and X54 (.and X36 (.and X38 (.and X28 (.and X83 X76))))) X61)
theorem fact25 (ρ : Env) : E.B ρ f25 = true := by
  unfold f25
  rw [sm_B_imp]
  simp only [sm_B_and]
  rintro ⟨p0, p1, p2, p3, p4, p5, p6, p7, p8, p9, p10⟩
  have hn0 := t131_nth p0 X3
  try simp only [smA, smW] at *
  have n4 := @fn0_nn ρ X1
  have n5 := @fn0_nn ρ X5
  obtain ⟨a6, ea6, qa6⟩ := cs_i64 ((E.I ρ X0) - (E.I ρ X3))
  try simp only [ea6] at *
  obtain ⟨a7, ea7, qa7⟩ := cs_i64 (((E.I ρ X0) - (E.I ρ X3)) - (0))
  try simp only [ea7] at *
  obtain ⟨a8, ea8, qa8⟩ := cs_u64 (E.I ρ (.fn 1 (.pr X20 (.fn 6 (.pr (.fn 8 (.pr X21 (.int 4))) (.int 1))))))
  try simp only [ea8] at *
  obtain ⟨a9, ea9, qa9⟩ := cs_rem (E.I ρ (.fn 1 (.pr X5 X3))) a8
  try simp only [ea9] at *
  obtain ⟨a10, ea10, qa10⟩ := cs_i64 a9
  try simp only [ea10] at *
  omega
def f26 : E := (.imp X76 (.cmp .eql X98 (.ar .sub .i64 (.fn 7 (.pr X0 X3)) (.int 1))))
theorem fact26 (ρ : Env) : E.B ρ f26 = true := by
  unfold f26
  rw [sm_B_imp]
  simp only [sm_B_and]
  rintro ⟨p0, p1, p2, p3, p4, p5⟩
  try simp only [smA, smW] at *
  have n2 := @fn0_nn ρ X1
  have n4 := @fn0_nn ρ X5
  obtain ⟨a4, ea4, qa4⟩ := cs_i64 ((E.I ρ X3) + (1))
  try simp only [ea4] at *
  obtain ⟨a5, ea5, qa5⟩ := cs_i64 ((E.I ρ X0) - a4)
  try simp only [ea5] at *
  obtain ⟨a6, ea6, qa6⟩ := cs_i64 (((E.I ρ X0) - (E.I ρ X3)) - (1))
  try simp only [ea6] at *
  omega
def f27 : E := (.imp (.and X28 X76) (.not X83))
theorem fact27 (ρ : Env) : E.B ρ f27 = true := by
  unfold f27
  rw [sm_B_imp]
  simp only [sm_B_and]
  rintro ⟨p0, p1, p2, p3, p4, p5, p6⟩
  try simp only [smA, smW] at *
  have n3 := @fn0_nn ρ X1
  have n4 := @fn0_nn ρ X5
  obtain ⟨a4, ea4, qa4⟩ := cs_i64 ((E.I ρ X0) - (E.I ρ X3))
  try simp only [ea4] at *
  obtain ⟨a5, ea5, qa5⟩ := cs_i64 (((E.I ρ X0) - (E.I ρ X3)) - (0))
  try simp only [ea5] at *
  omega
def f28 : E := (.imp (.and X28 X7) X84)
theorem fact28 (ρ : Env) : E.B ρ f28 = true := by
  unfold f28
  rw [sm_B_imp]
  simp only [sm_B_and]
  rintro ⟨p0, p1, p2, p3⟩
  try simp only [smA, smW] at *
  have n3 := @fn0_nn ρ X1
  have n4 := @fn0_nn ρ X5
  obtain ⟨a4, ea4, qa4⟩ := cs_i64 ((E.I ρ X0) - (E.I ρ X3))
  try simp only [ea4] at *
  omega
def f29 : E := (.imp X76 (.not (.cmp .lss X26 X98)))
theorem fact29 (ρ : Env) : E.B ρ f29 = true := by
  unfold f29
  rw [sm_B_imp]
  simp only [sm_B_and]
  rintro ⟨p0, p1, p2, p3, p4, p5⟩
  try simp only [smA, smW] at *
  have n2 := @fn0_nn ρ X1
  have n4 := @fn0_nn ρ X5
  obtain ⟨a4, ea4, qa4⟩ := cs_i64 ((E.I ρ X0) - (E.I ρ X3))
  try simp only [ea4] at *
  obtain ⟨a5, ea5, qa5⟩ := cs_i64 ((E.I ρ X3) + (1))
  try simp only [ea5] at *
  obtain ⟨a6, ea6, qa6⟩ := cs_i64 ((E.I ρ X0) - a5)
  try simp only [ea6] at *
  omega
def f30 : E := (.imp X76 (.cmp .eql (.ar .add .i64 X97 X98) (.fn 0 X1)))
theorem fact30 (ρ : Env) : E.B ρ f30 = true := by
  unfold f30
  rw [sm_B_imp]
  simp only [sm_B_and]
  rintro ⟨p0, p1, p2, p3, p4, p5⟩
  try simp only [smA, smW] at *
  have n2 := @fn0_nn ρ X1
  have n4 := @fn0_nn ρ X5
  obtain ⟨a4, ea4, qa4⟩ := cs_i64 ((E.I ρ X3) + (1))
  try simp only [ea4] at *
  obtain ⟨a5, ea5, qa5⟩ := cs_i64 ((E.I ρ X0) - a4)
  try simp only [ea5] at *
  obtain ⟨a6, ea6, qa6⟩ := cs_i64 (a4 + a5)
  try simp only [ea6] at *
  omega
def f31 : E := (.imp X76 (.not (.cmp .lss X97 (.int 0))))
theorem fact31 (ρ : Env) : E.B ρ f31 = true := by
  unfold f31
  rw [sm_B_imp]
  simp only [sm_B_and]
  rintro ⟨p0, p1, p2, p3, p4, p5⟩
  try simp only [smA, smW] at *
  have n2 := @fn0_nn ρ X1
  have n4 := @fn0_nn ρ X5
  obtain ⟨a4, ea4, qa4⟩ := cs_i64 ((E.I ρ X3) + (1))
  try simp only [ea4] at *
  omega
def f32 : E := (.imp (.and X28 X76) (.not (.cmp .lss X0 X97)))
theorem fact32 (ρ : Env) : E.B ρ f32 = true := by
  unfold f32
  rw [sm_B_imp]
  simp only [sm_B_and]
  rintro ⟨p0, p1, p2, p3, p4, p5, p6⟩
  try simp only [smA, smW] at *
  have n3 := @fn0_nn ρ X1
  have n4 := @fn0_nn ρ X5
  obtain ⟨a4, ea4, qa4⟩ := cs_i64 ((E.I ρ X0) - (E.I ρ X3))
  try simp only [ea4] at *
  obtain ⟨a5, ea5, qa5⟩ := cs_i64 ((E.I ρ X3) + (1))
  try simp only [ea5] at *
  omega
def facts : List E := [f0, f1, f2, f3, f4, f5, f6, f7, f8, f9, f10, f11, f12, f13, f14, f15, f16, f17, f18, f19, f20, f21, f22, f23, f24, f25, f26, f27, f28, f29, f30, f31, f32]
theorem facts_ok : ∀ e ∈ facts, ∀ ρ : Env, E.B ρ e = true := (all_cons fact0 (all_cons fact1 (all_cons fact2 (all_cons fact3 (all_cons fact4 (all_cons fact5 (all_cons fact6 (all_cons fact7 (all_cons fact8 (all_cons fact9 (all_cons fact10 (all_cons fact11 (all_cons fact12 (all_cons fact13 (all_cons fact14 (all_cons fact15 (all_cons fact16 (all_cons fact17 (all_cons fact18 (all_cons fact19 (all_cons fact20 (all_cons fact21 (all_cons fact22 (all_cons fact23 (all_cons fact24 (all_cons fact25 (all_cons fact26 (all_cons fact27 (all_cons fact28 (all_cons fact29 (all_cons fact30 (all_cons fact31 (all_cons fact32 all_nil)))))))))))))))))))))))))))))))))
end l0_0
theorem body0_0_0 : BodyOk Try.prog (annG (some yG)) yG (tG).less (tG).tmps { (tG).st with pc := (what 0) :: (tG).st.pc } :=
  body_of_check good (facts := l0_0.facts) l0_0.facts_ok (anns := []) (plainAnns_ok _ (by kernel_rfl)) (nats := natl6) natl6_ok (n := 3000) (by kernel_rfl) (by kernel_rfl)
namespace l0_1
def f0 : E := (.imp (.and X100 X101) (.not X102))
theorem fact0 (ρ : Env) : E.B ρ f0 = true := by
  unfold f0
  rw [sm_B_imp]
  simp only [sm_B_and]
  rintro ⟨p0, p1⟩
  try simp only [smA, smW] at *
  omega
def f1 : E := (.imp (.and (.cmp .eql (.var 9) (.fn 1 (.pr X20 (.fn 6 (.pr (.fn 8 (.pr X21 (.int 4))) (.int 2)))))) X101) (.not (.cmp .eql (.var 9) (.int 0))))
theorem fact1 (ρ : Env) : E.B ρ f1 = true := by
  unfold f1
  rw [sm_B_imp]
  simp only [sm_B_and]
  rintro ⟨p0, p1⟩
  try simp only [smA, smW] at *
  omega
def f2 : E := (.imp (.and X104 X101) (.not (.cmp .eql X103 (.int 0))))
theorem fact2 (ρ : Env) : E.B ρ f2 = true := by
  unfold f2
  rw [sm_B_imp]
  simp only [sm_B_and]
  rintro ⟨p0, p1⟩
  try simp only [smA, smW] at *
  omega
def f3 : E := (.imp (.and (.cmp .eql (.var 13) (.fn 1 (.pr X20 (.fn 6 (.pr (.fn 8 (.pr X21 (.int 4))) (.int 2)))))) X101) (.not (.cmp .eql (.var 13) (.int 0))))
theorem fact3 (ρ : Env) : E.B ρ f3 = true := by
  unfold f3
  rw [sm_B_imp]
  simp only [sm_B_and]
  rintro ⟨p0, p1⟩
  try simp only [smA, smW] at *
  omega
def f4 : E := (.imp X107 X108)
theorem fact4 (ρ : Env) : E.B ρ f4 = true := by
  unfold f4
  rw [sm_B_imp]
  simp only [sm_B_and]
  rintro ⟨p0, p1⟩
  have hb0 := t132_not p0
  have hb1 := t132_yes p1
  try simp only [smA, smW] at *
  omega
def f5 : E := (.imp X110 X108)
theorem fact5 (ρ : Env) : E.B ρ f5 = true := by
  unfold f5
  rw [sm_B_imp]
  simp only [sm_B_and]
  rintro ⟨p0, p1⟩
  try simp only [smA, smW] at *
  omega
def f6 : E := (.imp X107 X111)
theorem fact6 (ρ : Env) : E.B ρ f6 = true := by
  unfold f6
  rw [sm_B_imp]
  simp only [sm_B_and]
  rintro ⟨p0, p1⟩
  have hb0 := t132_not p0
  have hb1 := t132_yes p1
  try simp only [smA, smW] at *
  omega
def f7 : E := (.imp X110 X111)
theorem fact7 (ρ : Env) : E.B ρ f7 = true := by
  unfold f7
  rw [sm_B_imp]
  simp only [sm_B_and]
  rintro ⟨p0, p1⟩
  try simp only [smA, smW] at *
  omega
def f8 : E := (.imp X107 X112)
theorem fact8 (ρ : Env) : E.B ρ f8 = true := by
  unfold f8
  rw [sm_B_imp]
  simp only [sm_B_and]
  rintro ⟨p0, p1⟩
  have hb0 := t132_not p0
  have hb1 := t132_yes p1
  try simp only [smA, smW] at *
  omega
def f9 : E := (.imp X110 X112)
theorem fact9 (ρ : Env) : E.B ρ f9 = true := by
  unfold f9
  rw [sm_B_imp]
  simp only [sm_B_and]
  rintro ⟨p0, p1⟩
  try simp only [smA, smW] at *
  omega
def f10 : E := (.imp X107 X113)
theorem fact10 (ρ : Env) : E.B ρ f10 = true := by
  unfold f10
  rw [sm_B_imp]
  simp only [sm_B_and]
  rintro ⟨p0, p1⟩
  have hb0 := t132_not p0
  have hb1 := t132_yes p1
  try simp only [smA, smW] at *
  omega
def f11 : E := (.imp X110 X113)
theorem fact11 (ρ : Env) : E.B ρ f11 = true := by
  unfold f11
  rw [sm_B_imp]
  simp only [sm_B_and]
  rintro ⟨p0, p1⟩
  try simp only [smA, smW] at *
  omega
def f12 : E := X8
theorem fact12 (ρ : Env) : E.B ρ f12 = true := by
  unfold f12
  rw [sm_B_imp]
  simp only [sm_B_and]
  rintro ⟨p0, p1, p2⟩
  try simp only [smA, smW] at *
  have n2 := @fn0_nn ρ X1
  have n4 := @fn0_nn ρ X5
  omega
def f13 : E := X19
theorem fact13 (ρ : Env) : E.B ρ f13 = true := by
  unfold f13
  rw [sm_B_imp]
  simp only [sm_B_and]
  rintro ⟨p0, p1, p2, p3, p4⟩
  try simp only [smA, smW] at *
  have n2 := @fn0_nn ρ X1
  have n4 := @fn0_nn ρ X5
  omega
def f14 : E := X24
theorem fact14 (ρ : Env) : E.B ρ f14 = true := by
  unfold f14
  rw [sm_B_imp]
  intro p0
  try simp only [smA, smW] at *
  omega
def f15 : E := (.imp (.and X41 (.and X42 (.and X115 (.and X44 X116)))) (.fn 133 (.fn 1 (.pr X20 (.fn 6 (.pr (.fn 8 (.pr X21 (.int 4))) (.int 1)))))))
theorem fact15 (ρ : Env) : E.B ρ f15 = true := by
  unfold f15
  rw [sm_B_imp]
  simp only [sm_B_and]
  rintro ⟨p0, p1, p2, p3, p4⟩
  obtain ⟨b0, b1⟩ : (0) ≤ E.I ρ X21 ∧ E.I ρ X21 < E.I ρ X114 := by
    try simp only [smA, smW] at *
    omega
  have hrow := (t130_get (i := X21) p2 (by (try simp only [sm_I_int]); omega) b1).2
  rw [sm_B_eql] at p4
  rw [z133]
  simp only [sm_I_int] at *
  have hq := fun h => hrow ⟨p4, h⟩
  omega
def f16 : E := X34
theorem fact16 (ρ : Env) : E.B ρ f16 = true := by
  unfold f16
  rw [sm_B_imp]
  simp only [sm_B_and]
  rintro ⟨p0, p1, p2, p3, p4⟩
  try simp only [smA, smW] at *
  have n2 := @fn0_nn ρ X1
  have n4 := @fn0_nn ρ X5
  omega
def f17 : E := X117
theorem fact17 (ρ : Env) : E.B ρ f17 = true := by
  unfold f17
  rw [sm_B_imp]
  intro p0
  exact t131_nil0
def f18 : E := (.imp X122 (.not X109))
theorem fact18 (ρ : Env) : E.B ρ f18 = true := by
  unfold f18
  rw [sm_B_imp]
  simp only [sm_B_and]
  rintro ⟨p0, p1, p2, p3⟩
  have hb0 := t132_yes p0
  have hb1 := t132_not p1
  try simp only [smA, smW] at *
  omega
def f19 : E := (.imp X122 X123)
theorem fact19 (ρ : Env) : E.B ρ f19 = true := by
  unfold f19
  rw [sm_B_imp]
  simp only [sm_B_and]
  rintro ⟨p0, p1, p2, p3⟩
  have hb0 := t132_yes p0
  have hb1 := t132_not p1
  try simp only [smA, smW] at *
  omega
def f20 : E := (.imp (.and X25 (.and X105 X30)) X124)
theorem fact20 (ρ : Env) : E.B ρ f20 = true := by
  unfold f20
  rw [sm_B_imp]
  simp only [sm_B_and]
  rintro ⟨p0, p1, p2, p3, p4⟩
  have hb1 := t132_yes p1
  try simp only [smA, smW] at *
  have n4 := @fn0_nn ρ X1
  omega
def f21 : E := (.imp (.and X25 (.and X106 X30)) X124)
theorem fact21 (ρ : Env) : E.B ρ f21 = true := by
  unfold f21
  rw [sm_B_imp]
  simp only [sm_B_and]
  rintro ⟨p0, p1, p2, p3, p4⟩
  have hb1 := t132_not p1
  try simp only [smA, smW] at *
  have n4 := @fn0_nn ρ X1
  omega
def f22 : E := (.imp X126 (.not (.cmp .lss X125 X3)))
theorem fact22 (ρ : Env) : E.B ρ f22 = true := by
  unfold f22
  rw [sm_B_imp]
  intro p0
  try simp only [smA, smW] at *
  omega
def f23 : E := (.imp X131 X133)
theorem fact23 (ρ : Env) : E.B ρ f23 = true := by
  unfold f23
  rw [sm_B_imp]
  simp only [sm_B_and]
  rintro ⟨p0, p1, p2, p3, p4, p5, p6, p7, p8, p9⟩
  try simp only [smA, smW] at *
  have n2 := @fn0_nn ρ X1
  have n5 := @fn0_nn ρ X5
  have n9 := @fn0_nn ρ X125
  omega
def f24 : E := X135
theorem fact24 (ρ : Env) : E.B ρ f24 = true := by
  unfold f24
  rw [sm_B_imp]
  intro p0
  exact t131_sub p0
def f25 : E := (.imp (.and X25 (.and X105 X30)) X136)
theorem fact25 (ρ : Env) : E.B ρ f25 = true := by
  unfold f25
  rw [sm_B_imp]
  simp only [sm_B_and]
  rintro ⟨p0, p1, p2, p3, p4⟩
  have hb1 := t132_yes p1
  try simp only [smA, smW] at *
  have n4 := @fn0_nn ρ X1
  obtain ⟨a4, ea4, qa4⟩ := cs_i64 ((E.I ρ X0) - (E.I ρ X3))
  try simp only [ea4] at *
  omega
def f26 : E := (.imp (.and X25 (.and X106 X30)) X136)
theorem fact26 (ρ : Env) : E.B ρ f26 = true := by
  unfold f26
  rw [sm_B_imp]
  simp only [sm_B_and]
  rintro ⟨p0, p1, p2, p3, p4⟩
  have hb1 := t132_not p1
  try simp only [smA, smW] at *
  have n4 := @fn0_nn ρ X1
  obtain ⟨a4, ea4, qa4⟩ := cs_i64 ((E.I ρ X0) - (E.I ρ X3))
  try simp only [ea4] at *
  omega
def f27 : E := (.imp (.and X25 (.and X126 (.and X106 X30))) (.not (.cmp .lss X0 X125)))
theorem fact27 (ρ : Env) : E.B ρ f27 = true := by
  unfold f27
  rw [sm_B_imp]
  simp only [sm_B_and]
  rintro ⟨p0, p1, p2, p3, p4, p5⟩
  have hb2 := t132_not p2
  try simp only [smA, smW] at *
  have n5 := @fn0_nn ρ X1
  omega
def f28 : E := (.imp X131 X123)
theorem fact28 (ρ : Env) : E.B ρ f28 = true := by
  unfold f28
  rw [sm_B_imp]
  simp only [sm_B_and]
  rintro ⟨p0, p1, p2, p3, p4, p5, p6, p7, p8, p9⟩
  try simp only [smA, smW] at *
  have n2 := @fn0_nn ρ X1
  have n5 := @fn0_nn ρ X5
  have n9 := @fn0_nn ρ X125
  omega
def f29 : E := (.imp (.and X105 X76) X137)
theorem fact29 (ρ : Env) : E.B ρ f29 = true := by
  unfold f29
  rw [sm_B_imp]
  simp only [sm_B_and]
  rintro ⟨p0, p1, p2, p3, p4, p5, p6⟩
  have hb0 := t132_yes p0
  have hs0 := I_sublen (ρ := ρ) (l := X5) (a := X3) (b := (.fn 6 (.pr X3 (.fn 7 (.pr X0 X3)))))
  try simp only [smA, smW] at *
  have n2 := @fn0_nn ρ X1
  have n4 := @fn0_nn ρ X5
  have n5 := @fn0_nn ρ (.fn 4 (.pr X5 (.pr X3 (.fn 6 (.pr X3 (.fn 7 (.pr X0 X3)))))))
  omega
def f30 : E := (.imp (.and X106 X76) X137)
theorem fact30 (ρ : Env) : E.B ρ f30 = true := by
  unfold f30
  rw [sm_B_imp]
  simp only [sm_B_and]
  rintro ⟨p0, p1, p2, p3, p4, p5, p6⟩
  have hb0 := t132_not p0
  have hs0 := I_sublen (ρ := ρ) (l := X5) (a := X3) (b := (.fn 6 (.pr X3 (.fn 7 (.pr X0 X3)))))
  try simp only [smA, smW] at *
  have n2 := @fn0_nn ρ X1
  have n4 := @fn0_nn ρ X5
  have n5 := @fn0_nn ρ (.fn 4 (.pr X5 (.pr X3 (.fn 6 (.pr X3 (.fn 7 (.pr X0 X3)))))))
  omega
def f31 : E := (.imp X105 X138)
theorem fact31 (ρ : Env) : E.B ρ f31 = true := by
  unfold f31
  rw [sm_B_imp]
  intro p0
  have hb0 := t132_yes p0
  try simp only [smA, smW] at *
  omega
def f32 : E := (.imp X106 X138)
theorem fact32 (ρ : Env) : E.B ρ f32 = true := by
  unfold f32
  rw [sm_B_imp]
  intro p0
  have hb0 := t132_not p0
  try simp only [smA, smW] at *
  omega
def f33 : E := (.imp (.and X128 (.and X129 (.and X100 (.and (.fn 102 (.pr X125 X139)) (.and X101 (.and X106 (.and X140 (.and X142 (.and X104 (.and (.fn 102 (.pr X141 (.pr (.fn 1 (.pr X20 (.fn 6 (.pr (.fn 8 (.pr X21 (.int 4))) (.int 2))))) (.pr (.fn 1 (.pr X20 (.fn 6 (.pr (.fn 8 (.pr X21 (.int 4))) (.int 1))))) X143)))) X123)))))))))) (.fn 106 (.pr X141 X125)))
theorem fact33 (ρ : Env) : E.B ρ f33 = true := by
  unfold f33
  rw [sm_B_imp]
  simp only [sm_B_and]
  rintro ⟨p0, p1, p2, p3, p4, p5, p6, p7, p8, p9, p10⟩
  have hdg : E.I ρ (.fn 0 X5) ≤ E.I ρ X3 := by
    have hb5 := t132_not p5
    try simp only [smA, smW] at *
    have n5 := @fn0_nn ρ X125
    have n8 := @fn0_nn ρ X141
    have n9 := @fn0_nn ρ X5
    omega
  have hd : E.B ρ X145 = true := t111_end (by (try simp only [sm_I_int]); omega)
  exact t106_sym (t106_pick p3 p9 hd)
def f34 : E := (.imp (.and X105 X18) X147)
theorem fact34 (ρ : Env) : E.B ρ f34 = true := by
  unfold f34
  rw [sm_B_imp]
  simp only [sm_B_and]
  rintro ⟨p0, p1, p2, p3, p4, p5⟩
  have hb0 := t132_yes p0
  try simp only [smA, smW] at *
  have n2 := @fn0_nn ρ X1
  have n4 := @fn0_nn ρ X5
  omega
def f35 : E := (.imp (.and X106 X18) X147)
theorem fact35 (ρ : Env) : E.B ρ f35 = true := by
  unfold f35
  rw [sm_B_imp]
  simp only [sm_B_and]
  rintro ⟨p0, p1, p2, p3, p4, p5⟩
  have hb0 := t132_not p0
  try simp only [smA, smW] at *
  have n2 := @fn0_nn ρ X1
  have n4 := @fn0_nn ρ X5
  omega
def f36 : E := (.imp X157 (.not (.cmp .lss X158 (.int 0))))
theorem fact36 (ρ : Env) : E.B ρ f36 = true := by
  unfold f36
  rw [sm_B_imp]
  simp only [sm_B_and]
  rintro ⟨p0, p1, p2, p3, p4, p5⟩
  have hb0 := t132_not p0
  try simp only [smA, smW] at *
  have n2 := @fn0_nn ρ X149
  obtain ⟨a4, ea4, qa4⟩ := cs_i64 ((E.I ρ X152) - (1))
  try simp only [ea4] at *
  omega
def f37 : E := (.imp X161 X164)
theorem fact37 (ρ : Env) : E.B ρ f37 = true := by
  unfold f37
  rw [sm_B_imp]
  simp only [sm_B_and]
  rintro ⟨p0, p1⟩
  try simp only [smA, smW] at *
  obtain ⟨a1, ea1, qa1⟩ := cs_i64 ((E.I ρ X152) + (1))
  try simp only [ea1] at *
  omega
def f38 : E := (.imp X171 (.cmp .lss (.fn 1 (.pr X149 X152)) (.fn 1 (.pr X20 (.fn 6 (.pr (.fn 8 (.pr X21 (.int 4))) (.int 1)))))))
theorem fact38 (ρ : Env) : E.B ρ f38 = true := by
  unfold f38
  rw [sm_B_imp]
  simp only [sm_B_and]
  rintro ⟨p0, p1, p2, p3, p4, p5, p6⟩
  obtain ⟨gm, gb, g0, g2⟩ : E.I ρ (.fn 1 (.pr X20 (.fn 6 (.pr (.fn 8 (.pr X21 (.int 4))) (.int 2))))) ≤ E.I ρ (.fn 1 (.pr X20 (.fn 6 (.pr (.fn 8 (.pr X21 (.int 4))) (.int 1))))) ∧ (1) ≤ E.I ρ (.fn 1 (.pr X20 (.fn 6 (.pr (.fn 8 (.pr X21 (.int 4))) (.int 1))))) ∧ (0) ≤ E.I ρ X152 ∧ E.I ρ X152 < E.I ρ (.fn 0 X149) := by
    have hb2 := t132_not p2
    try simp only [smA, smW] at *
    have n3 := @fn0_nn ρ X149
    omega
  have hq := t102_ok p1 (by (try simp only [sm_I_int]); omega) (t := X152) (by (try simp only [sm_I_int]); omega) g2
  rw [sm_B_lss]
  (try simp only [sm_I_int] at *)
  omega
def f39 : E := (.imp X171 (.not (.cmp .lss (.fn 1 (.pr X149 X152)) (.int 0))))
theorem fact39 (ρ : Env) : E.B ρ f39 = true := by
  unfold f39
  rw [sm_B_imp]
  simp only [sm_B_and]
  rintro ⟨p0, p1, p2, p3, p4, p5, p6⟩
  obtain ⟨gm, gb, g0, g2⟩ : E.I ρ (.fn 1 (.pr X20 (.fn 6 (.pr (.fn 8 (.pr X21 (.int 4))) (.int 2))))) ≤ E.I ρ (.fn 1 (.pr X20 (.fn 6 (.pr (.fn 8 (.pr X21 (.int 4))) (.int 1))))) ∧ (1) ≤ E.I ρ (.fn 1 (.pr X20 (.fn 6 (.pr (.fn 8 (.pr X21 (.int 4))) (.int 1))))) ∧ (0) ≤ E.I ρ X152 ∧ E.I ρ X152 < E.I ρ (.fn 0 X149) := by
    have hb2 := t132_not p2
    try simp only [smA, smW] at *
    have n3 := @fn0_nn ρ X149
    omega
  have hq := t102_ok p1 (by (try simp only [sm_I_int]); omega) (t := X152) (by (try simp only [sm_I_int]); omega) g2
  rw [sm_B_not, sm_B_lss]
  (try simp only [sm_I_int] at *)
  omega
def f40 : E := (.imp (.and X173 X4) (.not (.cmp .lss X172 (.int 0))))
theorem fact40 (ρ : Env) : E.B ρ f40 = true := by
  unfold f40
  rw [sm_B_imp]
  simp only [sm_B_and]
  rintro ⟨p0, p1⟩
  try simp only [smA, smW] at *
  omega
def f41 : E := (.imp X185 (.not (.cmp .lss (.var 24) X186)))
theorem fact41 (ρ : Env) : E.B ρ f41 = true := by
  unfold f41
  rw [sm_B_imp]
  simp only [sm_B_and]
  rintro ⟨p0, p1, p2, p3, p4, p5, p6⟩
  try simp only [smA, smW] at *
  have n7 := @fn0_nn ρ X1
  have n8 := @fn0_nn ρ X5
  obtain ⟨a8, ea8, qa8⟩ := cs_i64 ((E.I ρ X0) - (E.I ρ X175))
  try simp only [ea8] at *
  omega
def f42 : E := (.imp X131 (.cmp .eql X103 X99))
theorem fact42 (ρ : Env) : E.B ρ f42 = true := by
  unfold f42
  rw [sm_B_imp]
  simp only [sm_B_and]
  rintro ⟨p0, p1, p2, p3, p4, p5, p6, p7, p8, p9⟩
  try simp only [smA, smW] at *
  have n2 := @fn0_nn ρ X1
  have n5 := @fn0_nn ρ X5
  have n9 := @fn0_nn ρ X125
  omega
def f43 : E := (.imp (.and (.not X25) (.and X105 (.and X106 (.and X2 (.and X4 (.and X29 (.and X6 X120))))))) (.not X111))
theorem fact43 (ρ : Env) : E.B ρ f43 = true := by
  unfold f43
  rw [sm_B_imp]
  simp only [sm_B_and]
  rintro ⟨p0, p1, p2, p3, p4, p5, p6, p7, p8⟩
  have hb1 := t132_yes p1
  have hb2 := t132_not p2
  try simp only [smA, smW] at *
  have n4 := @fn0_nn ρ X1
  have n5 := @fn0_nn ρ X5
  omega
def f44 : E := (.imp (.and X105 X76) X136)
theorem fact44 (ρ : Env) : E.B ρ f44 = true := by
  unfold f44
  rw [sm_B_imp]
  simp only [sm_B_and]
  rintro ⟨p0, p1, p2, p3, p4, p5, p6⟩
  have hb0 := t132_yes p0
  try simp only [smA, smW] at *
  have n2 := @fn0_nn ρ X1
  have n4 := @fn0_nn ρ X5
  obtain ⟨a4, ea4, qa4⟩ := cs_i64 ((E.I ρ X0) - (E.I ρ X3))
  try simp only [ea4] at *
  omega
def f45 : E := (.imp (.and X2 (.and X6 (.and X106 (.and X108 (.and X187 (.and X129 (.and X100 (.not X111)))))))) X133)
theorem fact45 (ρ : Env) : E.B ρ f45 = true := by
  unfold f45
  rw [sm_B_imp]
  simp only [sm_B_and]
  rintro ⟨p0, p1, p2, p3, p4, p5, p6, p7⟩
  have hb2 := t132_not p2
  try simp only [smA, smW] at *
  have n2 := @fn0_nn ρ X1
  have n3 := @fn0_nn ρ X5
  have n8 := @fn0_nn ρ X125
  omega
def f46 : E := (.imp (.and X106 (.and X109 X7)) (.not X111))
theorem fact46 (ρ : Env) : E.B ρ f46 = true := by
  unfold f46
  rw [sm_B_imp]
  simp only [sm_B_and]
  rintro ⟨p0, p1, p2, p3, p4⟩
  have hb0 := t132_not p0
  try simp only [smA, smW] at *
  have n3 := @fn0_nn ρ X1
  have n5 := @fn0_nn ρ X5
  omega
def f47 : E := (.imp (.and X2 (.and X6 (.and X128 (.and X106 (.and X130 X111))))) X133)
theorem fact47 (ρ : Env) : E.B ρ f47 = true := by
  unfold f47
  rw [sm_B_imp]
  simp only [sm_B_and]
  rintro ⟨p0, p1, p2, p3, p4, p5⟩
  have hb3 := t132_not p3
  try simp only [smA, smW] at *
  have n2 := @fn0_nn ρ X1
  have n3 := @fn0_nn ρ X5
  omega
def f48 : E := (.imp (.and (.fn 102 (.pr X125 X139)) (.and X106 (.and (.fn 102 (.pr X141 (.pr (.fn 1 (.pr X20 (.fn 6 (.pr (.fn 8 (.pr X21 (.int 4))) (.int 2))))) (.pr (.fn 1 (.pr X20 (.fn 6 (.pr (.fn 8 (.pr X21 (.int 4))) (.int 1))))) (.pr (.fn 4 (.pr X5 (.pr X3 (.fn 6 (.pr X3 (.fn 7 (.pr X0 X3))))))) (.int 0)))))) X182))) (.fn 106 (.pr X141 X125)))
theorem fact48 (ρ : Env) : E.B ρ f48 = true := by
  unfold f48
  rw [sm_B_imp]
  simp only [sm_B_and]
  rintro ⟨p0, p1, p2, p3, p4⟩
  have hdg : E.I ρ (.fn 6 (.pr X3 (.fn 7 (.pr X0 X3)))) = E.I ρ (.fn 0 X5) := by
    have hb1 := t132_not p1
    try simp only [smA, smW] at *
    have n2 := @fn0_nn ρ X1
    have n3 := @fn0_nn ρ X5
    omega
  have hd : E.B ρ X96 = true := t111_sub hdg
  exact t106_sym (t106_pick p0 p2 hd)
def f49 : E := (.imp (.and X126 X102) (.cmp .eql (.fn 6 (.pr X99 X3)) X125))
theorem fact49 (ρ : Env) : E.B ρ f49 = true := by
  unfold f49
  rw [sm_B_imp]
  simp only [sm_B_and]
  rintro ⟨p0, p1⟩
  try simp only [smA, smW] at *
  omega
def f50 : E := (.imp X131 (.not (.cmp .lss (.int 300) X103)))
theorem fact50 (ρ : Env) : E.B ρ f50 = true := by
  unfold f50
  rw [sm_B_imp]
  simp only [sm_B_and]
  rintro ⟨p0, p1, p2, p3, p4, p5, p6, p7, p8, p9⟩
  try simp only [smA, smW] at *
  have n2 := @fn0_nn ρ X1
  have n5 := @fn0_nn ρ X5
  have n9 := @fn0_nn ρ X125
  omega
def f51 : E := (.imp (.and X106 (.and X108 (.and X187 (.and X129 (.and X100 X182))))) X111)
theorem fact51 (ρ : Env) : E.B ρ f51 = true := by
  unfold f51
  rw [sm_B_imp]
  simp only [sm_B_and]
  rintro ⟨p0, p1, p2, p3, p4, p5, p6⟩
  have hb0 := t132_not p0
  try simp only [smA, smW] at *
  have n6 := @fn0_nn ρ X125
  have n7 := @fn0_nn ρ X1
  have n8 := @fn0_nn ρ X5
  omega
def f52 : E := (.imp (.and X2 (.and X4 (.and X6 X108))) (.not X109))
theorem fact52 (ρ : Env) : E.B ρ f52 = true := by
  unfold f52
  rw [sm_B_imp]
  simp only [sm_B_and]
  rintro ⟨p0, p1, p2, p3⟩
  try simp only [smA, smW] at *
  have n2 := @fn0_nn ρ X1
  have n4 := @fn0_nn ρ X5
  omega
def f53 : E := (.imp (.and X106 (.and X108 X7)) X136)
theorem fact53 (ρ : Env) : E.B ρ f53 = true := by
  unfold f53
  rw [sm_B_imp]
  simp only [sm_B_and]
  rintro ⟨p0, p1, p2, p3, p4⟩
  have hb0 := t132_not p0
  try simp only [smA, smW] at *
  have n4 := @fn0_nn ρ X1
  have n5 := @fn0_nn ρ X5
  obtain ⟨a5, ea5, qa5⟩ := cs_i64 ((E.I ρ X0) - (E.I ρ X3))
  try simp only [ea5] at *
  omega
def f54 : E := (.imp (.and X126 (.and X106 X7)) (.not (.cmp .lss X0 X125)))
theorem fact54 (ρ : Env) : E.B ρ f54 = true := by
  unfold f54
  rw [sm_B_imp]
  simp only [sm_B_and]
  rintro ⟨p0, p1, p2, p3, p4⟩
  have hb1 := t132_not p1
  try simp only [smA, smW] at *
  have n4 := @fn0_nn ρ X1
  have n5 := @fn0_nn ρ X5
  omega
def f55 : E := (.imp (.and X128 (.and X129 (.and X100 X188))) (.cmp .eql X103 X99))
theorem fact55 (ρ : Env) : E.B ρ f55 = true := by
  unfold f55
  rw [sm_B_imp]
  simp only [sm_B_and]
  rintro ⟨p0, p1, p2, p3, p4, p5, p6⟩
  have hb3 := t132_not p3
  try simp only [smA, smW] at *
  have n5 := @fn0_nn ρ X125
  have n8 := @fn0_nn ρ X141
  omega
def f56 : E := (.imp X193 X194)
theorem fact56 (ρ : Env) : E.B ρ f56 = true := by
  unfold f56
  rw [sm_B_imp]
  simp only [sm_B_and]
  rintro ⟨p0, p1, p2, p3, p4, p5, p6, p7, p8, p9⟩
  try simp only [smA, smW] at *
  have n7 := @fn0_nn ρ X1
  have n8 := @fn0_nn ρ X5
  obtain ⟨a8, ea8, qa8⟩ := cs_i64 ((E.I ρ X0) - (E.I ρ X175))
  try simp only [ea8] at *
  obtain ⟨a9, ea9, qa9⟩ := cs_i64 ((E.I ρ X172) - (E.I ρ X174))
  try simp only [ea9] at *
  omega
def f57 : E := (.imp X131 X196)
theorem fact57 (ρ : Env) : E.B ρ f57 = true := by
  unfold f57
  rw [sm_B_imp]
  simp only [sm_B_and]
  rintro ⟨p0, p1, p2, p3, p4, p5, p6, p7, p8, p9⟩
  try simp only [smA, smW] at *
  have n2 := @fn0_nn ρ X1
  have n5 := @fn0_nn ρ X5
  have n9 := @fn0_nn ρ X125
  omega
def f58 : E := (.imp (.and X106 X76) X136)
theorem fact58 (ρ : Env) : E.B ρ f58 = true := by
  unfold f58
  rw [sm_B_imp]
  simp only [sm_B_and]
  rintro ⟨p0, p1, p2, p3, p4, p5, p6⟩
  have hb0 := t132_not p0
  try simp only [smA, smW] at *
  have n2 := @fn0_nn ρ X1
  have n4 := @fn0_nn ρ X5
  obtain ⟨a4, ea4, qa4⟩ := cs_i64 ((E.I ρ X0) - (E.I ρ X3))
  try simp only [ea4] at *
  omega
def f59 : E := (.imp X208 (.not (.cmp .lss (.int 300) X103)))
theorem fact59 (ρ : Env) : E.B ρ f59 = true := by
  unfold f59
  rw [sm_B_imp]
  simp only [sm_B_and]
  rintro ⟨p0, p1, p2, p3, p4, p5, p6, p7, p8, p9, p10, p11, p12⟩
  have hb7 := t132_not p7
  try simp only [smA, smW] at *
  have n2 := @fn0_nn ρ X1
  have n4 := @fn0_nn ρ X5
  have n8 := @fn0_nn ρ X125
  have n11 := @fn0_nn ρ X141
  omega
def f60 : E := (.imp X157 (.cmp .lss X158 X148))
theorem fact60 (ρ : Env) : E.B ρ f60 = true := by
  unfold f60
  rw [sm_B_imp]
  simp only [sm_B_and]
  rintro ⟨p0, p1, p2, p3, p4, p5⟩
  have hb0 := t132_not p0
  try simp only [smA, smW] at *
  have n2 := @fn0_nn ρ X149
  obtain ⟨a4, ea4, qa4⟩ := cs_i64 ((E.I ρ X152) - (1))
  try simp only [ea4] at *
  omega
def f61 : E := (.imp X213 (.not (.cmp .lss X148 X162)))
theorem fact61 (ρ : Env) : E.B ρ f61 = true := by
  unfold f61
  rw [sm_B_imp]
  simp only [sm_B_and]
  rintro ⟨p0, p1, p2, p3, p4, p5⟩
  have hb1 := t132_not p1
  try simp only [smA, smW] at *
  have n3 := @fn0_nn ρ X149
  obtain ⟨a3, ea3, qa3⟩ := cs_i64 ((E.I ρ X152) + (1))
  try simp only [ea3] at *
  omega
def f62 : E := (.imp X193 X214)
theorem fact62 (ρ : Env) : E.B ρ f62 = true := by
  unfold f62
  rw [sm_B_imp]
  simp only [sm_B_and]
  rintro ⟨p0, p1, p2, p3, p4, p5, p6, p7, p8, p9⟩
  try simp only [smA, smW] at *
  have n7 := @fn0_nn ρ X1
  have n8 := @fn0_nn ρ X5
  obtain ⟨a8, ea8, qa8⟩ := cs_i64 ((E.I ρ X0) - (E.I ρ X175))
  try simp only [ea8] at *
  obtain ⟨a9, ea9, qa9⟩ := cs_i64 ((E.I ρ X175) + a8)
  try simp only [ea9] at *
  omega
def f63 : E := (.imp (.and X106 (.and X102 X7)) (.not (.cmp .lss (.fn 7 (.pr X0 X3)) X99)))
theorem fact63 (ρ : Env) : E.B ρ f63 = true := by
  unfold f63
  rw [sm_B_imp]
  simp only [sm_B_and]
  rintro ⟨p0, p1, p2, p3, p4⟩
  have hb0 := t132_not p0
  try simp only [smA, smW] at *
  have n3 := @fn0_nn ρ X1
  have n5 := @fn0_nn ρ X5
  omega
def f64 : E := (.imp X215 X196)
theorem fact64 (ρ : Env) : E.B ρ f64 = true := by
  unfold f64
  rw [sm_B_imp]
  simp only [sm_B_and]
  rintro ⟨p0, p1, p2, p3, p4, p5, p6, p7⟩
  have hb4 := t132_not p4
  try simp only [smA, smW] at *
  have n5 := @fn0_nn ρ X125
  have n8 := @fn0_nn ρ X141
  omega
def f65 : E := (.imp (.and X165 X157) (.cmp .lss (.fn 1 (.pr X149 X158)) (.fn 1 (.pr X149 X152))))
theorem fact65 (ρ : Env) : E.B ρ f65 = true := by
  unfold f65
  rw [sm_B_imp]
  simp only [sm_B_and]
  rintro ⟨p0, p1, p2, p3, p4, p5, p6⟩
  obtain ⟨gm, g0, g1, g2⟩ : E.I ρ (.fn 1 (.pr X20 (.fn 6 (.pr (.fn 8 (.pr X21 (.int 4))) (.int 2))))) ≤ E.I ρ (.fn 1 (.pr X20 (.fn 6 (.pr (.fn 8 (.pr X21 (.int 4))) (.int 1))))) ∧ (0) ≤ E.I ρ X158 ∧ E.I ρ X158 < E.I ρ X152 ∧ E.I ρ X152 < E.I ρ (.fn 0 X149) := by
    have hb1 := t132_not p1
    try simp only [smA, smW] at *
    have n2 := @fn0_nn ρ X149
    obtain ⟨a5, ea5, qa5⟩ := cs_i64 ((E.I ρ X152) - (1))
    try simp only [ea5] at *
    omega
  rw [sm_B_lss]
  exact t102_lt p0 (by (try simp only [sm_I_int]); omega) (by (try simp only [sm_I_int]); omega) g1 g2
def f66 : E := (.imp X157 X164)
theorem fact66 (ρ : Env) : E.B ρ f66 = true := by
  unfold f66
  rw [sm_B_imp]
  simp only [sm_B_and]
  rintro ⟨p0, p1, p2, p3, p4, p5⟩
  have hb0 := t132_not p0
  try simp only [smA, smW] at *
  have n2 := @fn0_nn ρ X149
  obtain ⟨a4, ea4, qa4⟩ := cs_i64 ((E.I ρ X152) + (1))
  try simp only [ea4] at *
  omega
def f67 : E := (.imp X161 X216)
theorem fact67 (ρ : Env) : E.B ρ f67 = true := by
  unfold f67
  rw [sm_B_imp]
  simp only [sm_B_and]
  rintro ⟨p0, p1⟩
  try simp only [smA, smW] at *
  obtain ⟨a2, ea2, qa2⟩ := cs_i64 ((E.I ρ X152) + (1))
  try simp only [ea2] at *
  omega
def f68 : E := (.imp X219 (.not (.cmp .lss X175 (.int 0))))
theorem fact68 (ρ : Env) : E.B ρ f68 = true := by
  unfold f68
  rw [sm_B_imp]
  simp only [sm_B_and]
  rintro ⟨p0, p1, p2, p3, p4, p5⟩
  try simp only [smA, smW] at *
  have n6 := @fn0_nn ρ X1
  have n7 := @fn0_nn ρ X5
  omega
def f69 : E := (.imp X215 X133)
theorem fact69 (ρ : Env) : E.B ρ f69 = true := by
  unfold f69
  rw [sm_B_imp]
  simp only [sm_B_and]
  rintro ⟨p0, p1, p2, p3, p4, p5, p6, p7⟩
  have hb4 := t132_not p4
  try simp only [smA, smW] at *
  have n5 := @fn0_nn ρ X125
  have n8 := @fn0_nn ρ X141
  omega
def f70 : E := (.imp X213 X221)
theorem fact70 (ρ : Env) : E.B ρ f70 = true := by
  unfold f70
  rw [sm_B_imp]
  simp only [sm_B_and]
  rintro ⟨p0, p1, p2, p3, p4, p5⟩
  have hb1 := t132_not p1
  try simp only [smA, smW] at *
  have n3 := @fn0_nn ρ X149
  obtain ⟨a3, ea3, qa3⟩ := cs_i64 ((E.I ρ X152) + (1))
  try simp only [ea3] at *
  omega
def f71 : E := X50
theorem fact71 (ρ : Env) : E.B ρ f71 = true := by
  unfold f71
  rw [sm_B_imp]
  simp only [sm_B_and]
  rintro ⟨p0, p1, p2⟩
  try simp only [smA, smW] at *
  obtain ⟨a2, ea2, qa2⟩ := cs_i64 ((E.I ρ X21) + (1))
  try simp only [ea2] at *
  omega
def f72 : E := (.imp X229 (.not (.cmp .lss X0 X127)))
theorem fact72 (ρ : Env) : E.B ρ f72 = true := by
  unfold f72
  rw [sm_B_imp]
  simp only [sm_B_and]
  rintro ⟨p0, p1, p2, p3, p4, p5, p6, p7, p8⟩
  have hb4 := t132_not p4
  try simp only [smA, smW] at *
  have n5 := @fn0_nn ρ X125
  have n8 := @fn0_nn ρ X141
  omega
def f73 : E := (.imp X215 (.not (.cmp .lss X127 X3)))
theorem fact73 (ρ : Env) : E.B ρ f73 = true := by
  unfold f73
  rw [sm_B_imp]
  simp only [sm_B_and]
  rintro ⟨p0, p1, p2, p3, p4, p5, p6, p7⟩
  have hb4 := t132_not p4
  try simp only [smA, smW] at *
  have n5 := @fn0_nn ρ X125
  have n8 := @fn0_nn ρ X141
  omega
def f74 : E := (.imp (.and X128 (.and X129 (.and X100 (.and X106 (.and X130 X182))))) (.not X111))
theorem fact74 (ρ : Env) : E.B ρ f74 = true := by
  unfold f74
  rw [sm_B_imp]
  simp only [sm_B_and]
  rintro ⟨p0, p1, p2, p3, p4, p5, p6⟩
  have hb3 := t132_not p3
  try simp only [smA, smW] at *
  have n5 := @fn0_nn ρ X125
  have n7 := @fn0_nn ρ X1
  have n8 := @fn0_nn ρ X5
  omega
def f75 : E := (.imp X157 (.not (.cmp .lss X148 X162)))
theorem fact75 (ρ : Env) : E.B ρ f75 = true := by
  unfold f75
  rw [sm_B_imp]
  simp only [sm_B_and]
  rintro ⟨p0, p1, p2, p3, p4, p5⟩
  have hb0 := t132_not p0
  try simp only [smA, smW] at *
  have n2 := @fn0_nn ρ X149
  obtain ⟨a4, ea4, qa4⟩ := cs_i64 ((E.I ρ X152) + (1))
  try simp only [ea4] at *
  omega
def f76 : E := X75
theorem fact76 (ρ : Env) : E.B ρ f76 = true := by
  unfold f76
  rw [sm_B_imp]
  simp only [sm_B_and]
  rintro ⟨p0, p1⟩
  try simp only [smA, smW] at *
  obtain ⟨a2, ea2, qa2⟩ := cs_i64 ((E.I ρ X21) + (1))
  try simp only [ea2] at *
  omega
def f77 : E := (.imp X229 X124)
theorem fact77 (ρ : Env) : E.B ρ f77 = true := by
  unfold f77
  rw [sm_B_imp]
  simp only [sm_B_and]
  rintro ⟨p0, p1, p2, p3, p4, p5, p6, p7, p8⟩
  have hb4 := t132_not p4
  try simp only [smA, smW] at *
  have n5 := @fn0_nn ρ X125
  have n8 := @fn0_nn ρ X141
  omega
def f78 : E := (.imp X235 (.not (.cmp .lss X0 X127)))
theorem fact78 (ρ : Env) : E.B ρ f78 = true := by
  unfold f78
  rw [sm_B_imp]
  simp only [sm_B_and]
  rintro ⟨p0, p1, p2, p3, p4, p5, p6, p7, p8, p9⟩
  have hb3 := t132_not p3
  try simp only [smA, smW] at *
  have n5 := @fn0_nn ρ X125
  have n9 := @fn0_nn ρ X141
  have n10 := @fn0_nn ρ X1
  have n11 := @fn0_nn ρ X5
  omega
def f79 : E := (.imp X157 X216)
theorem fact79 (ρ : Env) : E.B ρ f79 = true := by
  unfold f79
  rw [sm_B_imp]
  simp only [sm_B_and]
  rintro ⟨p0, p1, p2, p3, p4, p5⟩
  have hb0 := t132_not p0
  try simp only [smA, smW] at *
  have n2 := @fn0_nn ρ X149
  obtain ⟨a4, ea4, qa4⟩ := cs_i64 ((E.I ρ X152) + (1))
  try simp only [ea4] at *
  omega
def f80 : E := X81
theorem fact80 (ρ : Env) : E.B ρ f80 = true := by
  unfold f80
  rw [sm_B_imp]
  simp only [sm_B_and]
  rintro ⟨p0, p1, p2⟩
  try simp only [smA, smW] at *
  obtain ⟨a2, ea2, qa2⟩ := cs_i64 ((E.I ρ X21) + (1))
  try simp only [ea2] at *
  omega
def f81 : E := (.imp X229 X136)
theorem fact81 (ρ : Env) : E.B ρ f81 = true := by
  unfold f81
  rw [sm_B_imp]
  simp only [sm_B_and]
  rintro ⟨p0, p1, p2, p3, p4, p5, p6, p7, p8⟩
  have hb4 := t132_not p4
  try simp only [smA, smW] at *
  have n5 := @fn0_nn ρ X125
  have n8 := @fn0_nn ρ X141
  obtain ⟨a9, ea9, qa9⟩ := cs_i64 ((E.I ρ X0) - (E.I ρ X3))
  try simp only [ea9] at *
  omega
def f82 : E := (.imp X157 X221)
theorem fact82 (ρ : Env) : E.B ρ f82 = true := by
  unfold f82
  rw [sm_B_imp]
  simp only [sm_B_and]
  rintro ⟨p0, p1, p2, p3, p4, p5⟩
  have hb0 := t132_not p0
  try simp only [smA, smW] at *
  have n2 := @fn0_nn ρ X149
  obtain ⟨a4, ea4, qa4⟩ := cs_i64 ((E.I ρ X152) + (1))
  try simp only [ea4] at *
  omega
def f83 : E := X87
theorem fact83 (ρ : Env) : E.B ρ f83 = true := by
  unfold f83
  rw [sm_B_imp]
  simp only [sm_B_and]
  rintro ⟨p0, p1⟩
  try simp only [smA, smW] at *
  obtain ⟨a2, ea2, qa2⟩ := cs_i64 ((E.I ρ X21) + (1))
  try simp only [ea2] at *
  omega
def f84 : E := (.imp X131 (.not (.cmp .lss (.var 14) (.int 0))))
theorem fact84 (ρ : Env) : E.B ρ f84 = true := by
  unfold f84
  rw [sm_B_imp]
  simp only [sm_B_and]
  rintro ⟨p0, p1, p2, p3, p4, p5, p6, p7, p8, p9⟩
  try simp only [smA, smW] at *
  have n2 := @fn0_nn ρ X1
  have n5 := @fn0_nn ρ X5
  have n9 := @fn0_nn ρ X125
  omega
def f85 : E := (.imp X215 (.not (.cmp .lss (.var 14) (.int 0))))
theorem fact85 (ρ : Env) : E.B ρ f85 = true := by
  unfold f85
  rw [sm_B_imp]
  simp only [sm_B_and]
  rintro ⟨p0, p1, p2, p3, p4, p5, p6, p7⟩
  have hb4 := t132_not p4
  try simp only [smA, smW] at *
  have n5 := @fn0_nn ρ X125
  have n8 := @fn0_nn ρ X141
  omega
def f86 : E := (.imp X131 (.not (.cmp .lss (.int 0) (.var 14))))
theorem fact86 (ρ : Env) : E.B ρ f86 = true := by
  unfold f86
  rw [sm_B_imp]
  simp only [sm_B_and]
  rintro ⟨p0, p1, p2, p3, p4, p5, p6, p7, p8, p9⟩
  try simp only [smA, smW] at *
  have n2 := @fn0_nn ρ X1
  have n5 := @fn0_nn ρ X5
  have n9 := @fn0_nn ρ X125
  omega
def f87 : E := (.imp X235 (.not (.cmp .lss (.fn 7 (.pr X0 X3)) (.var 14))))
theorem fact87 (ρ : Env) : E.B ρ f87 = true := by
  unfold f87
  rw [sm_B_imp]
  simp only [sm_B_and]
  rintro ⟨p0, p1, p2, p3, p4, p5, p6, p7, p8, p9⟩
  have hb3 := t132_not p3
  try simp only [smA, smW] at *
  have n5 := @fn0_nn ρ X125
  have n9 := @fn0_nn ρ X141
  have n10 := @fn0_nn ρ X1
  have n11 := @fn0_nn ρ X5
  omega
def f88 : E := (.imp (.and X128 (.and X129 (.and X100 X140))) (.cmp .eql (.fn 6 (.pr (.var 14) X3)) X127))
theorem fact88 (ρ : Env) : E.B ρ f88 = true := by
  unfold f88
  rw [sm_B_imp]
  simp only [sm_B_and]
  rintro ⟨p0, p1, p2, p3⟩
  try simp only [smA, smW] at *
  have n5 := @fn0_nn ρ X125
  omega
def f89 : E := (.imp X131 (.not (.cmp .lss (.int 300) X99)))
theorem fact89 (ρ : Env) : E.B ρ f89 = true := by
  unfold f89
  rw [sm_B_imp]
  simp only [sm_B_and]
  rintro ⟨p0, p1, p2, p3, p4, p5, p6, p7, p8, p9⟩
  try simp only [smA, smW] at *
  have n2 := @fn0_nn ρ X1
  have n5 := @fn0_nn ρ X5
  have n9 := @fn0_nn ρ X125
  omega
def f90 : E := (.imp X208 (.not (.cmp .lss (.int 300) X99)))
theorem fact90 (ρ : Env) : E.B ρ f90 = true := by
  unfold f90
  rw [sm_B_imp]
  simp only [sm_B_and]
  rintro ⟨p0, p1, p2, p3, p4, p5, p6, p7, p8, p9, p10, p11, p12⟩
  have hb7 := t132_not p7
  try simp only [smA, smW] at *
  have n2 := @fn0_nn ρ X1
  have n4 := @fn0_nn ρ X5
  have n8 := @fn0_nn ρ X125
  have n11 := @fn0_nn ρ X141
  omega
def facts : List E := [f0, f1, f2, f3, f4, f5, f6, f7, f8, f9, f10, f11, f12, f13, f14, f15, f16, f17, f18, f19, f20, f21, f22, f23, f24, f25, f26, f27, f28, f29, f30, f31, f32, f33, f34, f35, f36, f37, f38, f39, f40, f41, f42, f43, f44, f45, f46, f47, f48, f49, f50, f51, f52, f53, f54, f55, f56, f57, f58, f59, f60, f61, f62, f63, f64, f65, f66, f67, f68, f69, f70, f71, f72, f73, f74, f75, f76, f77, f78, f79, f80, f81, f82, f83, f84, f85, f86, f87, f88, f89, f90]
theorem facts_ok : ∀ e ∈ facts, ∀ ρ : Env, E.B ρ e = true := (all_cons fact0 (all_cons fact1 (all_cons fact2 (all_cons fact3 (all_cons fact4 (all_cons fact5 (all_cons fact6 (all_cons fact7 (all_cons fact8 (all_cons fact9 (all_cons fact10 (all_cons fact11 (all_cons fact12 (all_cons fact13 (all_cons fact14 (all_cons fact15 (all_cons fact16 (all_cons fact17 (all_cons fact18 (all_cons fact19 (all_cons fact20 (all_cons fact21 (all_cons fact22 (all_cons fact23 (all_cons fact24 (all_cons fact25 (all_cons fact26 (all_cons fact27 (all_cons fact28 (all_cons fact29 (all_cons fact30 (all_cons fact31 (all_cons fact32 (all_cons fact33 (all_cons fact34 (all_cons fact35 (all_cons fact36 (all_cons fact37 (all_cons fact38 (all_cons fact39 (all_cons fact40 (all_cons fact41 (all_cons fact42 (all_cons fact43 (all_cons fact44 (all_cons fact45 (all_cons fact46 (all_cons fact47 (all_cons fact48 (all_cons fact49 (all_cons fact50 (all_cons fact51 (all_cons fact52 (all_cons fact53 (all_cons fact54 (all_cons fact55 (all_cons fact56 (all_cons fact57 (all_cons fact58 (all_cons fact59 (all_cons fact60 (all_cons fact61 (all_cons fact62 (all_cons fact63 (all_cons fact64 (all_cons fact65 (all_cons fact66 (all_cons fact67 (all_cons fact68 (all_cons fact69 (all_cons fact70 (all_cons fact71 (all_cons fact72 (all_cons fact73 (all_cons fact74 (all_cons fact75 (all_cons fact76 (all_cons fact77 (all_cons fact78 (all_cons fact79 (all_cons fact80 (all_cons fact81 (all_cons fact82 (all_cons fact83 (all_cons fact84 (all_cons fact85 (all_cons fact86 (all_cons fact87 (all_cons fact88 (all_cons fact89 (all_cons fact90 all_nil)))))))))))))))))))))))))))))))))))))))))))))))))))))))))))))))))))))))))))))))))))))))))))
end l0_1
theorem body0_0_1 : BodyOk Try.prog (annG (some yG)) yG (tG).less (tG).tmps { (tG).st with pc := (what 2) :: .not (what 0) :: (tG).st.pc } :=
  body_of_check good (facts := l0_1.facts) l0_1.facts_ok (anns := annI 1) (plainAnns_ok _ (by kernel_rfl)) (nats := natl6) natl6_ok (n := 3000) (by kernel_rfl) (by kernel_rfl)
namespace l0_2
def f0 : E := (.imp (.and X237 (.and X238 X240)) (.cmp .eql (.fn 0 X239) (.int 0)))
theorem fact0 (ρ : Env) : E.B ρ f0 = true := by
  unfold f0
  rw [sm_B_imp]
  simp only [sm_B_and]
  rintro ⟨p0, p1, p2⟩
  have hk2 := t140_len p2
  have hz2 : E.I ρ (.fn 0 (.fn 10 (.int 0))) = 0 := rfl
  try simp only [smA, smW] at *
  have n1 := @fn0_nn ρ (.fn 1 (.pr X20 (.fn 6 (.pr (.fn 8 (.pr X21 (.int 4))) (.int 3)))))
  have n3 := @fn0_nn ρ X239
  omega
def f1 : E := X8
theorem fact1 (ρ : Env) : E.B ρ f1 = true := by
  unfold f1
  rw [sm_B_imp]
  simp only [sm_B_and]
  rintro ⟨p0, p1, p2⟩
  try simp only [smA, smW] at *
  have n2 := @fn0_nn ρ X1
  have n4 := @fn0_nn ρ X5
  omega
def f2 : E := X19
theorem fact2 (ρ : Env) : E.B ρ f2 = true := by
  unfold f2
  rw [sm_B_imp]
  simp only [sm_B_and]
  rintro ⟨p0, p1, p2, p3, p4⟩
  try simp only [smA, smW] at *
  have n2 := @fn0_nn ρ X1
  have n4 := @fn0_nn ρ X5
  omega
def f3 : E := X24
theorem fact3 (ρ : Env) : E.B ρ f3 = true := by
  unfold f3
  rw [sm_B_imp]
  intro p0
  try simp only [smA, smW] at *
  omega
def f4 : E := X117
theorem fact4 (ρ : Env) : E.B ρ f4 = true := by
  unfold f4
  rw [sm_B_imp]
  intro p0
  exact t131_nil0
def f5 : E := X50
theorem fact5 (ρ : Env) : E.B ρ f5 = true := by
  unfold f5
  rw [sm_B_imp]
  simp only [sm_B_and]
  rintro ⟨p0, p1, p2⟩
  try simp only [smA, smW] at *
  obtain ⟨a2, ea2, qa2⟩ := cs_i64 ((E.I ρ X21) + (1))
  try simp only [ea2] at *
  omega
def f6 : E := X53
theorem fact6 (ρ : Env) : E.B ρ f6 = true := by
  unfold f6
  rw [sm_B_imp]
  simp only [sm_B_and]
  rintro ⟨p0, p1, p2, p3⟩
  try simp only [smA, smW] at *
  have n4 := @fn0_nn ρ X1
  obtain ⟨a4, ea4, qa4⟩ := cs_i64 ((E.I ρ X0) - (E.I ρ X3))
  try simp only [ea4] at *
  omega
def f7 : E := X135
theorem fact7 (ρ : Env) : E.B ρ f7 = true := by
  unfold f7
  rw [sm_B_imp]
  intro p0
  exact t131_sub p0
def f8 : E := X242
theorem fact8 (ρ : Env) : E.B ρ f8 = true := by
  unfold f8
  rw [sm_B_imp]
  simp only [sm_B_and]
  rintro ⟨p0, p1, p2, p3⟩
  try simp only [smA, smW] at *
  have n3 := @fn0_nn ρ X1
  have n4 := @fn0_nn ρ X5
  obtain ⟨a4, ea4, qa4⟩ := cs_i64 ((E.I ρ X0) - (E.I ρ X3))
  try simp only [ea4] at *
  obtain ⟨a5, ea5, qa5⟩ := cs_i64 (((E.I ρ X0) - (E.I ρ X3)) - (0))
  try simp only [ea5] at *
  omega
def f9 : E := X34
theorem fact9 (ρ : Env) : E.B ρ f9 = true := by
  unfold f9
  rw [sm_B_imp]
  simp only [sm_B_and]
  rintro ⟨p0, p1, p2, p3, p4⟩
  try simp only [smA, smW] at *
  have n2 := @fn0_nn ρ X1
  have n4 := @fn0_nn ρ X5
  omega
def f10 : E := (.imp (.fn 27 (.pr (.fn 23 (.pr (.int 3) (.fn 23 (.pr (.int 3) (.fn 23 (.pr (.int 3) (.fn 23 (.pr (.fn 23 (.pr (.int 3) (.fn 10 (.int 0)))) (.fn 10 (.int 0)))))))))) X20)) (.fn 106 (.pr (.fn 10 (.int 0)) (.fn 10 (.int 0)))))
theorem fact10 (ρ : Env) : E.B ρ f10 = true := by
  unfold f10
  rw [sm_B_imp]
  intro p0
  exact t106_self
def f11 : E := (.imp X51 X124)
theorem fact11 (ρ : Env) : E.B ρ f11 = true := by
  unfold f11
  rw [sm_B_imp]
  simp only [sm_B_and]
  rintro ⟨p0, p1, p2, p3⟩
  try simp only [smA, smW] at *
  have n4 := @fn0_nn ρ X1
  omega
def f12 : E := X71
theorem fact12 (ρ : Env) : E.B ρ f12 = true := by
  unfold f12
  rw [sm_B_imp]
  simp only [sm_B_and]
  rintro ⟨p0, p1, p2, p3, p4, p5, p6⟩
  try simp only [smA, smW] at *
  have n4 := @fn0_nn ρ X1
  have n5 := @fn0_nn ρ X5
  obtain ⟨a5, ea5, qa5⟩ := cs_i64 ((E.I ρ X0) - (E.I ρ X3))
  try simp only [ea5] at *
  obtain ⟨a6, ea6, qa6⟩ := cs_i64 ((E.I ρ X3) + a5)
  try simp only [ea6] at *
  omega
def f13 : E := X79
theorem fact13 (ρ : Env) : E.B ρ f13 = true := by
  unfold f13
  rw [sm_B_imp]
  simp only [sm_B_and]
  rintro ⟨p0, p1, p2, p3, p4, p5⟩
  try simp only [smA, smW] at *
  have n2 := @fn0_nn ρ X1
  have n4 := @fn0_nn ρ X5
  obtain ⟨a4, ea4, qa4⟩ := cs_i64 ((E.I ρ X0) - (E.I ρ X3))
  try simp only [ea4] at *
  obtain ⟨a5, ea5, qa5⟩ := cs_i64 (((E.I ρ X0) - (E.I ρ X3)) - (0))
  try simp only [ea5] at *
  omega
def f14 : E := (.imp X51 X136)
theorem fact14 (ρ : Env) : E.B ρ f14 = true := by
  unfold f14
  rw [sm_B_imp]
  simp only [sm_B_and]
  rintro ⟨p0, p1, p2, p3⟩
  try simp only [smA, smW] at *
  have n4 := @fn0_nn ρ X1
  obtain ⟨a4, ea4, qa4⟩ := cs_i64 ((E.I ρ X0) - (E.I ρ X3))
  try simp only [ea4] at *
  omega
def f15 : E := (.imp X76 X137)
theorem fact15 (ρ : Env) : E.B ρ f15 = true := by
  unfold f15
  rw [sm_B_imp]
  simp only [sm_B_and]
  rintro ⟨p0, p1, p2, p3, p4, p5⟩
  have hs0 := I_sublen (ρ := ρ) (l := X5) (a := X3) (b := (.fn 6 (.pr X3 (.fn 7 (.pr X0 X3)))))
  try simp only [smA, smW] at *
  have n2 := @fn0_nn ρ X1
  have n4 := @fn0_nn ρ X5
  have n5 := @fn0_nn ρ (.fn 4 (.pr X5 (.pr X3 (.fn 6 (.pr X3 (.fn 7 (.pr X0 X3)))))))
  omega
def f16 : E := X82
theorem fact16 (ρ : Env) : E.B ρ f16 = true := by
  unfold f16
  rw [sm_B_imp]
  simp only [sm_B_and]
  rintro ⟨p0, p1, p2, p3, p4, p5⟩
  try simp only [smA, smW] at *
  have n2 := @fn0_nn ρ X1
  have n4 := @fn0_nn ρ X5
  obtain ⟨a4, ea4, qa4⟩ := cs_i64 ((E.I ρ X0) - (E.I ρ X3))
  try simp only [ea4] at *
  obtain ⟨a5, ea5, qa5⟩ := cs_i64 ((E.I ρ X3) + a4)
  try simp only [ea5] at *
  omega
def f17 : E := X243
theorem fact17 (ρ : Env) : E.B ρ f17 = true := by
  unfold f17
  rw [sm_B_imp]
  intro p0
  try simp only [smA, smW] at *
  omega
def f18 : E := X244
theorem fact18 (ρ : Env) : E.B ρ f18 = true := by
  unfold f18
  rw [sm_B_imp]
  simp only [sm_B_and]
  rintro ⟨p0, p1, p2⟩
  try simp only [smA, smW] at *
  obtain ⟨a2, ea2, qa2⟩ := cs_i64 ((E.I ρ X21) + (1))
  try simp only [ea2] at *
  omega
def f19 : E := X245
theorem fact19 (ρ : Env) : E.B ρ f19 = true := by
  unfold f19
  rw [sm_B_imp]
  simp only [sm_B_and]
  rintro ⟨p0, p1, p2, p3, p4⟩
  try simp only [smA, smW] at *
  have n2 := @fn0_nn ρ X1
  have n4 := @fn0_nn ρ X5
  omega
def f20 : E := X246
theorem fact20 (ρ : Env) : E.B ρ f20 = true := by
  unfold f20
  rw [sm_B_imp]
  intro p0
  have g0 : E.I ρ (.int 0) = E.I ρ (.int 0) := rfl
  have g1 : E.I ρ (.int 0) = E.I ρ (.int 0) := rfl
  exact t140_start g0 g1
def f21 : E := X81
theorem fact21 (ρ : Env) : E.B ρ f21 = true := by
  unfold f21
  rw [sm_B_imp]
  simp only [sm_B_and]
  rintro ⟨p0, p1, p2⟩
  try simp only [smA, smW] at *
  obtain ⟨a2, ea2, qa2⟩ := cs_i64 ((E.I ρ X21) + (1))
  try simp only [ea2] at *
  omega
def f22 : E := (.imp X76 X136)
theorem fact22 (ρ : Env) : E.B ρ f22 = true := by
  unfold f22
  rw [sm_B_imp]
  simp only [sm_B_and]
  rintro ⟨p0, p1, p2, p3, p4, p5⟩
  try simp only [smA, smW] at *
  have n2 := @fn0_nn ρ X1
  have n4 := @fn0_nn ρ X5
  obtain ⟨a4, ea4, qa4⟩ := cs_i64 ((E.I ρ X0) - (E.I ρ X3))
  try simp only [ea4] at *
  omega
def f23 : E := (.imp (.and X240 (.and X237 (.and X159 (.and X238 X247)))) X164)
theorem fact23 (ρ : Env) : E.B ρ f23 = true := by
  unfold f23
  rw [sm_B_imp]
  simp only [sm_B_and]
  rintro ⟨p0, p1, p2, p3, p4⟩
  have hk0 := t140_len p0
  have hz0 : E.I ρ (.fn 0 (.fn 10 (.int 0))) = 0 := rfl
  try simp only [smA, smW] at *
  have n1 := @fn0_nn ρ (.fn 1 (.pr X20 (.fn 6 (.pr (.fn 8 (.pr X21 (.int 4))) (.int 3)))))
  obtain ⟨a2, ea2, qa2⟩ := cs_i64 ((E.I ρ X152) + (1))
  try simp only [ea2] at *
  omega
def f24 : E := (.imp X240 (.fn 39 X239))
theorem fact24 (ρ : Env) : E.B ρ f24 = true := by
  unfold f24
  rw [sm_B_imp]
  intro p0
  exact t39_of p0
def f25 : E := X248
theorem fact25 (ρ : Env) : E.B ρ f25 = true := by
  unfold f25
  rw [sm_B_imp]
  simp only [sm_B_and]
  rintro ⟨p0, p1, p2⟩
  try simp only [smA, smW] at *
  obtain ⟨a2, ea2, qa2⟩ := cs_i64 ((E.I ρ X21) + (1))
  try simp only [ea2] at *
  omega
def f26 : E := (.imp X252 X254)
theorem fact26 (ρ : Env) : E.B ρ f26 = true := by
  unfold f26
  rw [sm_B_imp]
  simp only [sm_B_and]
  rintro ⟨p0, p1, p2, p3, p4⟩
  obtain ⟨b0, b1⟩ : (0) ≤ E.I ρ X21 ∧ E.I ρ X21 < E.I ρ X114 := by
    have hk0 := t140_len p0
    have hz0 : E.I ρ (.fn 0 (.fn 10 (.int 0))) = 0 := rfl
    try simp only [smA, smW] at *
    have n2 := @fn0_nn ρ (.fn 1 (.pr X20 (.fn 6 (.pr (.fn 8 (.pr X21 (.int 4))) (.int 3)))))
    omega
  have hrow := (t130_get (i := X21) p2 (by (try simp only [sm_I_int]); omega) b1).1
  clear b0 b1
  have hk0 := t140_len p0
  have hz0 : E.I ρ (.fn 0 (.fn 10 (.int 0))) = 0 := rfl
  try simp only [smA, smW] at *
  have n2 := @fn0_nn ρ (.fn 1 (.pr X20 (.fn 6 (.pr (.fn 8 (.pr X21 (.int 4))) (.int 3)))))
  obtain ⟨a2, ea2, qa2⟩ := cs_i64 ((E.I ρ X152) + (1))
  try simp only [ea2] at *
  omega
def f27 : E := (.imp (.and X240 (.and X173 X4)) (.not (.cmp .lss X172 (.int 0))))
theorem fact27 (ρ : Env) : E.B ρ f27 = true := by
  unfold f27
  rw [sm_B_imp]
  simp only [sm_B_and]
  rintro ⟨p0, p1, p2⟩
  have hk0 := t140_len p0
  have hz0 : E.I ρ (.fn 0 (.fn 10 (.int 0))) = 0 := rfl
  try simp only [smA, smW] at *
  omega
def f28 : E := (.imp (.and X240 X185) (.not (.cmp .lss (.var 24) X186)))
theorem fact28 (ρ : Env) : E.B ρ f28 = true := by
  unfold f28
  rw [sm_B_imp]
  simp only [sm_B_and]
  rintro ⟨p0, p1, p2, p3, p4, p5, p6, p7⟩
  have hk0 := t140_len p0
  have hz0 : E.I ρ (.fn 0 (.fn 10 (.int 0))) = 0 := rfl
  try simp only [smA, smW] at *
  have n7 := @fn0_nn ρ X1
  have n8 := @fn0_nn ρ X5
  obtain ⟨a8, ea8, qa8⟩ := cs_i64 ((E.I ρ X0) - (E.I ρ X175))
  try simp only [ea8] at *
  omega
def f29 : E := (.imp (.and X240 (.and X159 (.and (.fn 27 (.pr (.fn 23 (.pr (.int 3) (.fn 23 (.pr (.int 3) (.fn 23 (.pr (.int 3) (.fn 23 (.pr (.fn 23 (.pr (.int 3) (.fn 10 (.int 0)))) (.fn 10 (.int 0)))))))))) X20)) X249))) X258)
theorem fact29 (ρ : Env) : E.B ρ f29 = true := by
  unfold f29
  rw [sm_B_imp]
  simp only [sm_B_and]
  rintro ⟨p0, p1, p2, p3, p4⟩
  have gr : (0) ≤ E.I ρ X21 := by
    have hk0 := t140_len p0
    have hz0 : E.I ρ (.fn 0 (.fn 10 (.int 0))) = 0 := rfl
    have hm0_0 := t140_rng p0 (.fn 1 (.pr (.fn 1 (.pr X20 (.fn 6 (.pr (.fn 8 (.pr X21 (.int 4))) (.int 3))))) X152))
    try simp only [smA, smW] at *
    have n2 := @fn0_nn ρ (.fn 1 (.pr X20 (.fn 6 (.pr (.fn 8 (.pr X21 (.int 4))) (.int 3)))))
    omega
  have gk := rng_l p2 (i := X21) (by (try simp only [sm_I_int]); omega) X152
  obtain ⟨g0, g1, g2, g3, g4, g5⟩ : (0) ≤ E.I ρ X152 ∧ E.I ρ X152 < E.I ρ (.fn 0 (.fn 1 (.pr X20 (.fn 6 (.pr (.fn 8 (.pr X21 (.int 4))) (.int 3)))))) ∧ E.I ρ (.fn 6 (.pr X152 (.int 0))) < (1000000) ∧ (0) ≤ (0) ∧ E.I ρ X255 = E.I ρ (.fn 6 (.pr (.fn 32 (.pr X239 (.pr (.fn 1 (.pr (.fn 1 (.pr X20 (.fn 6 (.pr (.fn 8 (.pr X21 (.int 4))) (.int 3))))) X152)) (.int 0)))) (.int 1))) ∧ E.I ρ X162 = E.I ρ (.fn 6 (.pr X152 (.int 1))) := by
    have hk0 := t140_len p0
    have hz0 : E.I ρ (.fn 0 (.fn 10 (.int 0))) = 0 := rfl
    have hm0_0 := t140_rng p0 (.fn 1 (.pr (.fn 1 (.pr X20 (.fn 6 (.pr (.fn 8 (.pr X21 (.int 4))) (.int 3))))) X152))
    try simp only [smA, smW] at *
    have n2 := @fn0_nn ρ (.fn 1 (.pr X20 (.fn 6 (.pr (.fn 8 (.pr X21 (.int 4))) (.int 3)))))
    obtain ⟨a3, ea3, qa3⟩ := cs_i64 ((E.I ρ (.fn 32 (.pr X239 (.pr (.fn 1 (.pr (.fn 1 (.pr X20 (.fn 6 (.pr (.fn 8 (.pr X21 (.int 4))) (.int 3))))) X152)) (.int 0))))) + (1))
    try simp only [ea3] at *
    obtain ⟨a4, ea4, qa4⟩ := cs_i64 ((E.I ρ X152) + (1))
    try simp only [ea4] at *
    omega
  exact t140_add p0 (by (try simp only [sm_I_int]); omega) g1 g2 (by (try simp only [sm_I_int]); omega) gk.1 gk.2 g4 g5
def f30 : E := (.imp X252 X259)
theorem fact30 (ρ : Env) : E.B ρ f30 = true := by
  unfold f30
  rw [sm_B_imp]
  simp only [sm_B_and]
  rintro ⟨p0, p1, p2, p3, p4⟩
  obtain ⟨b0, b1⟩ : (0) ≤ E.I ρ X21 ∧ E.I ρ X21 < E.I ρ X114 := by
    have hk0 := t140_len p0
    have hz0 : E.I ρ (.fn 0 (.fn 10 (.int 0))) = 0 := rfl
    try simp only [smA, smW] at *
    have n2 := @fn0_nn ρ (.fn 1 (.pr X20 (.fn 6 (.pr (.fn 8 (.pr X21 (.int 4))) (.int 3)))))
    omega
  have hrow := (t130_get (i := X21) p2 (by (try simp only [sm_I_int]); omega) b1).1
  clear b0 b1
  have hk0 := t140_len p0
  have hz0 : E.I ρ (.fn 0 (.fn 10 (.int 0))) = 0 := rfl
  try simp only [smA, smW] at *
  have n2 := @fn0_nn ρ (.fn 1 (.pr X20 (.fn 6 (.pr (.fn 8 (.pr X21 (.int 4))) (.int 3)))))
  obtain ⟨a2, ea2, qa2⟩ := cs_i64 ((E.I ρ X152) + (1))
  try simp only [ea2] at *
  omega
def f31 : E := (.imp X260 X194)
theorem fact31 (ρ : Env) : E.B ρ f31 = true := by
  unfold f31
  rw [sm_B_imp]
  simp only [sm_B_and]
  rintro ⟨p0, p1, p2, p3, p4, p5, p6, p7, p8, p9, p10⟩
  have hk0 := t140_len p0
  have hz0 : E.I ρ (.fn 0 (.fn 10 (.int 0))) = 0 := rfl
  try simp only [smA, smW] at *
  have n7 := @fn0_nn ρ X1
  have n8 := @fn0_nn ρ X5
  obtain ⟨a8, ea8, qa8⟩ := cs_i64 ((E.I ρ X0) - (E.I ρ X175))
  try simp only [ea8] at *
  obtain ⟨a9, ea9, qa9⟩ := cs_i64 ((E.I ρ X172) - (E.I ρ X174))
  try simp only [ea9] at *
  omega
def f32 : E := (.imp X252 X262)
theorem fact32 (ρ : Env) : E.B ρ f32 = true := by
  unfold f32
  rw [sm_B_imp]
  simp only [sm_B_and]
  rintro ⟨p0, p1, p2, p3, p4⟩
  obtain ⟨b0, b1⟩ : (0) ≤ E.I ρ X21 ∧ E.I ρ X21 < E.I ρ X114 := by
    have hk0 := t140_len p0
    have hz0 : E.I ρ (.fn 0 (.fn 10 (.int 0))) = 0 := rfl
    try simp only [smA, smW] at *
    have n2 := @fn0_nn ρ (.fn 1 (.pr X20 (.fn 6 (.pr (.fn 8 (.pr X21 (.int 4))) (.int 3)))))
    omega
  have hrow := (t130_get (i := X21) p2 (by (try simp only [sm_I_int]); omega) b1).1
  clear b0 b1
  have hk0 := t140_len p0
  have hz0 : E.I ρ (.fn 0 (.fn 10 (.int 0))) = 0 := rfl
  try simp only [smA, smW] at *
  have n2 := @fn0_nn ρ (.fn 1 (.pr X20 (.fn 6 (.pr (.fn 8 (.pr X21 (.int 4))) (.int 3)))))
  obtain ⟨a2, ea2, qa2⟩ := cs_i64 ((E.I ρ X152) + (1))
  try simp only [ea2] at *
  omega
def f33 : E := (.imp X260 X214)
theorem fact33 (ρ : Env) : E.B ρ f33 = true := by
  unfold f33
  rw [sm_B_imp]
  simp only [sm_B_and]
  rintro ⟨p0, p1, p2, p3, p4, p5, p6, p7, p8, p9, p10⟩
  have hk0 := t140_len p0
  have hz0 : E.I ρ (.fn 0 (.fn 10 (.int 0))) = 0 := rfl
  try simp only [smA, smW] at *
  have n7 := @fn0_nn ρ X1
  have n8 := @fn0_nn ρ X5
  obtain ⟨a8, ea8, qa8⟩ := cs_i64 ((E.I ρ X0) - (E.I ρ X175))
  try simp only [ea8] at *
  obtain ⟨a9, ea9, qa9⟩ := cs_i64 ((E.I ρ X175) + a8)
  try simp only [ea9] at *
  omega
def f34 : E := (.imp (.and X240 X219) (.not (.cmp .lss X175 (.int 0))))
theorem fact34 (ρ : Env) : E.B ρ f34 = true := by
  unfold f34
  rw [sm_B_imp]
  simp only [sm_B_and]
  rintro ⟨p0, p1, p2, p3, p4, p5, p6⟩
  have hk0 := t140_len p0
  have hz0 : E.I ρ (.fn 0 (.fn 10 (.int 0))) = 0 := rfl
  try simp only [smA, smW] at *
  have n6 := @fn0_nn ρ X1
  have n7 := @fn0_nn ρ X5
  omega
def f35 : E := (.imp (.and X240 X72) X74)
theorem fact35 (ρ : Env) : E.B ρ f35 = true := by
  unfold f35
  rw [sm_B_imp]
  simp only [sm_B_and]
  rintro ⟨p0, p1, p2⟩
  have hk0 := t140_len p0
  have hz0 : E.I ρ (.fn 0 (.fn 10 (.int 0))) = 0 := rfl
  try simp only [smA, smW] at *
  obtain ⟨a2, ea2, qa2⟩ := cs_i64 ((E.I ρ X21) + (1))
  try simp only [ea2] at *
  omega
def f36 : E := (.imp (.and X240 X72) X86)
theorem fact36 (ρ : Env) : E.B ρ f36 = true := by
  unfold f36
  rw [sm_B_imp]
  simp only [sm_B_and]
  rintro ⟨p0, p1, p2⟩
  have hk0 := t140_len p0
  have hz0 : E.I ρ (.fn 0 (.fn 10 (.int 0))) = 0 := rfl
  try simp only [smA, smW] at *
  obtain ⟨a2, ea2, qa2⟩ := cs_i64 ((E.I ρ X21) + (1))
  try simp only [ea2] at *
  omega
def facts : List E := [f0, f1, f2, f3, f4, f5, f6, f7, f8, f9, f10, f11, f12, f13, f14, f15, f16, f17, f18, f19, f20, f21, f22, f23, f24, f25, f26, f27, f28, f29, f30, f31, f32, f33, f34, f35, f36]
theorem facts_ok : ∀ e ∈ facts, ∀ ρ : Env, E.B ρ e = true := (all_cons fact0 (all_cons fact1 (all_cons fact2 (all_cons fact3 (all_cons fact4 (all_cons fact5 (all_cons fact6 (all_cons fact7 (all_cons fact8 (all_cons fact9 (all_cons fact10 (all_cons fact11 (all_cons fact12 (all_cons fact13 (all_cons fact14 (all_cons fact15 (all_cons fact16 (all_cons fact17 (all_cons fact18 (all_cons fact19 (all_cons fact20 (all_cons fact21 (all_cons fact22 (all_cons fact23 (all_cons fact24 (all_cons fact25 (all_cons fact26 (all_cons fact27 (all_cons fact28 (all_cons fact29 (all_cons fact30 (all_cons fact31 (all_cons fact32 (all_cons fact33 (all_cons fact34 (all_cons fact35 (all_cons fact36 all_nil)))))))))))))))))))))))))))))))))))))
end l0_2
theorem body0_0_2 : BodyOk Try.prog (annG (some yG)) yG (tG).less (tG).tmps { (tG).st with pc := (emptyL) :: .not (what 2) :: .not (what 0) :: (tG).st.pc } :=
  body_of_check good (facts := l0_2.facts) l0_2.facts_ok (anns := annI 2) (plainAnns_ok _ (by kernel_rfl)) (nats := natl6) natl6_ok (n := 3000) (by kernel_rfl) (by kernel_rfl)
namespace l0_3
def f0 : E := X8
theorem fact0 (ρ : Env) : E.B ρ f0 = true := by
  unfold f0
  rw [sm_B_imp]
  simp only [sm_B_and]
  rintro ⟨p0, p1, p2⟩
  try simp only [smA, smW] at *
  have n2 := @fn0_nn ρ X1
  have n4 := @fn0_nn ρ X5
  omega
def f1 : E := X19
theorem fact1 (ρ : Env) : E.B ρ f1 = true := by
  unfold f1
  rw [sm_B_imp]
  simp only [sm_B_and]
  rintro ⟨p0, p1, p2, p3, p4⟩
  try simp only [smA, smW] at *
  have n2 := @fn0_nn ρ X1
  have n4 := @fn0_nn ρ X5
  omega
def f2 : E := X24
theorem fact2 (ρ : Env) : E.B ρ f2 = true := by
  unfold f2
  rw [sm_B_imp]
  intro p0
  try simp only [smA, smW] at *
  omega
def f3 : E := (.imp (.and X115 X46) X264)
theorem fact3 (ρ : Env) : E.B ρ f3 = true := by
  unfold f3
  rw [sm_B_imp]
  simp only [sm_B_and]
  rintro ⟨p0, p1, p2, p3⟩
  obtain ⟨b0, b1⟩ : (0) ≤ E.I ρ X21 ∧ E.I ρ X21 < E.I ρ X114 := by
    try simp only [smA, smW] at *
    omega
  have hrow := (t130_get (i := X21) p0 (by (try simp only [sm_I_int]); omega) b1).1
  clear b0 b1
  try simp only [smA, smW] at *
  have n3 := @fn0_nn ρ (.fn 1 (.pr X20 (.fn 6 (.pr (.fn 8 (.pr X21 (.int 4))) (.int 3)))))
  omega
def f4 : E := X34
theorem fact4 (ρ : Env) : E.B ρ f4 = true := by
  unfold f4
  rw [sm_B_imp]
  simp only [sm_B_and]
  rintro ⟨p0, p1, p2, p3, p4⟩
  try simp only [smA, smW] at *
  have n2 := @fn0_nn ρ X1
  have n4 := @fn0_nn ρ X5
  omega
def f5 : E := X117
theorem fact5 (ρ : Env) : E.B ρ f5 = true := by
  unfold f5
  rw [sm_B_imp]
  intro p0
  exact t131_nil0
def f6 : E := (.imp (.and X2 (.and X4 (.and X29 (.and X6 (.and X115 (.and X41 (.and X25 (.and X265 (.and X266 (.and X267 X45)))))))))) X268)
theorem fact6 (ρ : Env) : E.B ρ f6 = true := by
  unfold f6
  rw [sm_B_imp]
  simp only [sm_B_and]
  rintro ⟨p0, p1, p2, p3, p4, p5, p6, p7, p8, p9, p10, p11⟩
  obtain ⟨b0, b1⟩ : (0) ≤ E.I ρ X21 ∧ E.I ρ X21 < E.I ρ X114 := by
    try simp only [smA, smW] at *
    have n2 := @fn0_nn ρ X1
    have n5 := @fn0_nn ρ X5
    have n8 := @fn0_nn ρ (.fn 1 (.pr X20 (.fn 6 (.pr (.fn 8 (.pr X21 (.int 4))) (.int 3)))))
    have n9 := @fn0_nn ρ X125
    omega
  have hrow := (t130_get (i := X21) p4 (by (try simp only [sm_I_int]); omega) b1).1
  clear b0 b1
  try simp only [smA, smW] at *
  have n2 := @fn0_nn ρ X1
  have n5 := @fn0_nn ρ X5
  have n8 := @fn0_nn ρ (.fn 1 (.pr X20 (.fn 6 (.pr (.fn 8 (.pr X21 (.int 4))) (.int 3)))))
  have n9 := @fn0_nn ρ X125
  omega
def f7 : E := (.imp X51 X124)
theorem fact7 (ρ : Env) : E.B ρ f7 = true := by
  unfold f7
  rw [sm_B_imp]
  simp only [sm_B_and]
  rintro ⟨p0, p1, p2, p3⟩
  try simp only [smA, smW] at *
  have n4 := @fn0_nn ρ X1
  omega
def f8 : E := (.imp (.and X25 (.and X266 (.and X269 (.and (.fn 101 (.pr X125 X270)) (.and X271 (.and X272 (.and (.fn 101 (.pr X127 (.pr (.fn 1 (.pr X20 (.fn 6 (.pr (.fn 8 (.pr X21 (.int 4))) (.int 3))))) X143))) X273))))))) (.fn 106 (.pr X127 X125)))
theorem fact8 (ρ : Env) : E.B ρ f8 = true := by
  unfold f8
  rw [sm_B_imp]
  simp only [sm_B_and]
  rintro ⟨p0, p1, p2, p3, p4, p5, p6, p7, p8, p9, p10⟩
  have hdg : E.I ρ (.fn 0 X5) ≤ E.I ρ X3 := by
    try simp only [smA, smW] at *
    have n3 := @fn0_nn ρ (.fn 1 (.pr X20 (.fn 6 (.pr (.fn 8 (.pr X21 (.int 4))) (.int 3)))))
    have n4 := @fn0_nn ρ X125
    have n6 := @fn0_nn ρ X127
    have n9 := @fn0_nn ρ X1
    have n10 := @fn0_nn ρ X5
    omega
  have hd : E.B ρ X145 = true := t111_end (by (try simp only [sm_I_int]); omega)
  exact t106_sym (t106_shuf p3 p6 hd)
def f9 : E := X135
theorem fact9 (ρ : Env) : E.B ρ f9 = true := by
  unfold f9
  rw [sm_B_imp]
  intro p0
  exact t131_sub p0
def f10 : E := (.imp X51 X136)
theorem fact10 (ρ : Env) : E.B ρ f10 = true := by
  unfold f10
  rw [sm_B_imp]
  simp only [sm_B_and]
  rintro ⟨p0, p1, p2, p3⟩
  try simp only [smA, smW] at *
  have n4 := @fn0_nn ρ X1
  obtain ⟨a4, ea4, qa4⟩ := cs_i64 ((E.I ρ X0) - (E.I ρ X3))
  try simp only [ea4] at *
  omega
def f11 : E := (.imp X76 X137)
theorem fact11 (ρ : Env) : E.B ρ f11 = true := by
  unfold f11
  rw [sm_B_imp]
  simp only [sm_B_and]
  rintro ⟨p0, p1, p2, p3, p4, p5⟩
  have hs0 := I_sublen (ρ := ρ) (l := X5) (a := X3) (b := (.fn 6 (.pr X3 (.fn 7 (.pr X0 X3)))))
  try simp only [smA, smW] at *
  have n2 := @fn0_nn ρ X1
  have n4 := @fn0_nn ρ X5
  have n5 := @fn0_nn ρ (.fn 4 (.pr X5 (.pr X3 (.fn 6 (.pr X3 (.fn 7 (.pr X0 X3)))))))
  omega
def f12 : E := X243
theorem fact12 (ρ : Env) : E.B ρ f12 = true := by
  unfold f12
  rw [sm_B_imp]
  intro p0
  try simp only [smA, smW] at *
  omega
def f13 : E := (.imp (.and (.not X238) (.and X266 (.and X269 (.and X271 (.and X272 (.not X268)))))) (.not (.cmp .lss (.var 9) X3)))
theorem fact13 (ρ : Env) : E.B ρ f13 = true := by
  unfold f13
  rw [sm_B_imp]
  simp only [sm_B_and]
  rintro ⟨p0, p1, p2, p3, p4, p5⟩
  try simp only [smA, smW] at *
  have n1 := @fn0_nn ρ (.fn 1 (.pr X20 (.fn 6 (.pr (.fn 8 (.pr X21 (.int 4))) (.int 3)))))
  have n2 := @fn0_nn ρ X125
  have n5 := @fn0_nn ρ X127
  omega
def f14 : E := (.imp (.and X2 (.and X4 (.and X29 (.and X6 (.and X115 (.and X41 (.and X25 (.and X266 (.and X274 X45))))))))) (.not X268))
theorem fact14 (ρ : Env) : E.B ρ f14 = true := by
  unfold f14
  rw [sm_B_imp]
  simp only [sm_B_and]
  rintro ⟨p0, p1, p2, p3, p4, p5, p6, p7, p8, p9, p10⟩
  obtain ⟨b0, b1⟩ : (0) ≤ E.I ρ X21 ∧ E.I ρ X21 < E.I ρ X114 := by
    try simp only [smA, smW] at *
    have n2 := @fn0_nn ρ X1
    have n5 := @fn0_nn ρ X5
    have n8 := @fn0_nn ρ (.fn 1 (.pr X20 (.fn 6 (.pr (.fn 8 (.pr X21 (.int 4))) (.int 3)))))
    have n9 := @fn0_nn ρ X125
    omega
  have hrow := (t130_get (i := X21) p4 (by (try simp only [sm_I_int]); omega) b1).1
  clear b0 b1
  try simp only [smA, smW] at *
  have n2 := @fn0_nn ρ X1
  have n5 := @fn0_nn ρ X5
  have n8 := @fn0_nn ρ (.fn 1 (.pr X20 (.fn 6 (.pr (.fn 8 (.pr X21 (.int 4))) (.int 3)))))
  have n9 := @fn0_nn ρ X125
  omega
def f15 : E := X245
theorem fact15 (ρ : Env) : E.B ρ f15 = true := by
  unfold f15
  rw [sm_B_imp]
  simp only [sm_B_and]
  rintro ⟨p0, p1, p2, p3, p4⟩
  try simp only [smA, smW] at *
  have n2 := @fn0_nn ρ X1
  have n4 := @fn0_nn ρ X5
  omega
def f16 : E := X246
theorem fact16 (ρ : Env) : E.B ρ f16 = true := by
  unfold f16
  rw [sm_B_imp]
  intro p0
  have g0 : E.I ρ (.int 0) = E.I ρ (.int 0) := rfl
  have g1 : E.I ρ (.int 0) = E.I ρ (.int 0) := rfl
  exact t140_start g0 g1
def f17 : E := (.imp (.and X25 (.and X266 (.and X269 (.and X274 (.and X271 (.and X272 X30)))))) (.not (.cmp .lss X0 (.var 9))))
theorem fact17 (ρ : Env) : E.B ρ f17 = true := by
  unfold f17
  rw [sm_B_imp]
  simp only [sm_B_and]
  rintro ⟨p0, p1, p2, p3, p4, p5, p6, p7, p8⟩
  try simp only [smA, smW] at *
  have n3 := @fn0_nn ρ (.fn 1 (.pr X20 (.fn 6 (.pr (.fn 8 (.pr X21 (.int 4))) (.int 3)))))
  have n4 := @fn0_nn ρ X125
  have n7 := @fn0_nn ρ X127
  have n9 := @fn0_nn ρ X1
  omega
def f18 : E := (.imp (.and X115 (.and X41 (.and X265 (.and X266 (.and X267 X277))))) X278)
theorem fact18 (ρ : Env) : E.B ρ f18 = true := by
  unfold f18
  rw [sm_B_imp]
  simp only [sm_B_and]
  rintro ⟨p0, p1, p2, p3, p4, p5, p6, p7, p8⟩
  obtain ⟨b0, b1⟩ : (0) ≤ E.I ρ X21 ∧ E.I ρ X21 < E.I ρ X114 := by
    try simp only [smA, smW] at *
    have n5 := @fn0_nn ρ (.fn 1 (.pr X20 (.fn 6 (.pr (.fn 8 (.pr X21 (.int 4))) (.int 3)))))
    have n6 := @fn0_nn ρ X125
    have n8 := @fn0_nn ρ X1
    have n9 := @fn0_nn ρ X5
    omega
  have hrow := (t130_get (i := X21) p0 (by (try simp only [sm_I_int]); omega) b1).1
  clear b0 b1
  try simp only [smA, smW] at *
  have n5 := @fn0_nn ρ (.fn 1 (.pr X20 (.fn 6 (.pr (.fn 8 (.pr X21 (.int 4))) (.int 3)))))
  have n6 := @fn0_nn ρ X125
  have n8 := @fn0_nn ρ X1
  have n9 := @fn0_nn ρ X5
  omega
def f19 : E := (.imp X76 X136)
theorem fact19 (ρ : Env) : E.B ρ f19 = true := by
  unfold f19
  rw [sm_B_imp]
  simp only [sm_B_and]
  rintro ⟨p0, p1, p2, p3, p4, p5⟩
  try simp only [smA, smW] at *
  have n2 := @fn0_nn ρ X1
  have n4 := @fn0_nn ρ X5
  obtain ⟨a4, ea4, qa4⟩ := cs_i64 ((E.I ρ X0) - (E.I ρ X3))
  try simp only [ea4] at *
  omega
def f20 : E := (.imp (.and (.fn 101 (.pr X125 X270)) (.and (.fn 101 (.pr X127 (.pr (.fn 1 (.pr X20 (.fn 6 (.pr (.fn 8 (.pr X21 (.int 4))) (.int 3))))) (.pr (.fn 4 (.pr X5 (.pr X3 (.fn 6 (.pr X3 (.fn 7 (.pr X0 X3))))))) (.int 0))))) X182)) (.fn 106 (.pr X127 X125)))
theorem fact20 (ρ : Env) : E.B ρ f20 = true := by
  unfold f20
  rw [sm_B_imp]
  simp only [sm_B_and]
  rintro ⟨p0, p1, p2, p3⟩
  have hdg : E.I ρ (.fn 6 (.pr X3 (.fn 7 (.pr X0 X3)))) = E.I ρ (.fn 0 X5) := by
    try simp only [smA, smW] at *
    have n2 := @fn0_nn ρ X1
    have n3 := @fn0_nn ρ X5
    omega
  have hd : E.B ρ X96 = true := t111_sub hdg
  exact t106_sym (t106_shuf p0 p1 hd)
def f21 : E := (.imp (.and X283 (.and X159 (.and X285 (.and X286 X287)))) X164)
theorem fact21 (ρ : Env) : E.B ρ f21 = true := by
  unfold f21
  rw [sm_B_imp]
  simp only [sm_B_and]
  rintro ⟨p0, p1, p2, p3, p4, p5⟩
  have hk0 := t140_len p0
  try simp only [smA, smW] at *
  have n2 := @fn0_nn ρ (.fn 1 (.pr X20 (.fn 6 (.pr (.fn 8 (.pr X21 (.int 4))) (.int 3)))))
  have n3 := @fn0_nn ρ X149
  obtain ⟨a3, ea3, qa3⟩ := cs_i64 ((E.I ρ X152) + (1))
  try simp only [ea3] at *
  omega
def f22 : E := (.imp (.and X283 (.and X237 (.and X286 (.not X247)))) (.fn 140 (.pr X239 (.pr (.fn 1 (.pr X20 (.fn 6 (.pr (.fn 8 (.pr X21 (.int 4))) (.int 3))))) (.pr (.fn 0 (.fn 1 (.pr X20 (.fn 6 (.pr (.fn 8 (.pr X21 (.int 4))) (.int 3)))))) X279)))))
theorem fact22 (ρ : Env) : E.B ρ f22 = true := by
  unfold f22
  rw [sm_B_imp]
  simp only [sm_B_and]
  rintro ⟨p0, p1, p2, p3⟩
  have g0 : E.I ρ (.fn 0 (.fn 1 (.pr X20 (.fn 6 (.pr (.fn 8 (.pr X21 (.int 4))) (.int 3)))))) = E.I ρ X152 := by
    have hk0 := t140_len p0
    try simp only [smA, smW] at *
    have n1 := @fn0_nn ρ (.fn 1 (.pr X20 (.fn 6 (.pr (.fn 8 (.pr X21 (.int 4))) (.int 3)))))
    have n3 := @fn0_nn ρ X149
    omega
  have g1 : E.I ρ (.int 0) = E.I ρ (.int 0) := rfl
  exact t140_eq p0 g0 g1
def f23 : E := (.imp (.and X240 (.and X159 (.and X285 X287))) X164)
theorem fact23 (ρ : Env) : E.B ρ f23 = true := by
  unfold f23
  rw [sm_B_imp]
  simp only [sm_B_and]
  rintro ⟨p0, p1, p2, p3, p4⟩
  have hk0 := t140_len p0
  have hz0 : E.I ρ (.fn 0 (.fn 10 (.int 0))) = 0 := rfl
  try simp only [smA, smW] at *
  have n2 := @fn0_nn ρ (.fn 1 (.pr X20 (.fn 6 (.pr (.fn 8 (.pr X21 (.int 4))) (.int 3)))))
  obtain ⟨a2, ea2, qa2⟩ := cs_i64 ((E.I ρ X152) + (1))
  try simp only [ea2] at *
  omega
def f24 : E := (.imp (.and X240 (.and X237 (.not X247))) (.fn 140 (.pr X239 X288)))
theorem fact24 (ρ : Env) : E.B ρ f24 = true := by
  unfold f24
  rw [sm_B_imp]
  simp only [sm_B_and]
  rintro ⟨p0, p1, p2⟩
  have g0 : E.I ρ (.fn 0 (.fn 1 (.pr X20 (.fn 6 (.pr (.fn 8 (.pr X21 (.int 4))) (.int 3)))))) = E.I ρ X152 := by
    have hk0 := t140_len p0
    have hz0 : E.I ρ (.fn 0 (.fn 10 (.int 0))) = 0 := rfl
    try simp only [smA, smW] at *
    have n1 := @fn0_nn ρ (.fn 1 (.pr X20 (.fn 6 (.pr (.fn 8 (.pr X21 (.int 4))) (.int 3)))))
    omega
  have g1 : E.I ρ (.int 0) = E.I ρ (.int 0) := rfl
  exact t140_eq p0 g0 g1
def f25 : E := (.imp (.and X115 (.and X41 (.and X266 (.and X271 (.and X272 X45))))) (.not (.cmp .lss (.int 300) (.fn 0 (.fn 1 (.pr X20 (.fn 6 (.pr (.fn 8 (.pr X21 (.int 4))) (.int 3)))))))))
theorem fact25 (ρ : Env) : E.B ρ f25 = true := by
  unfold f25
  rw [sm_B_imp]
  simp only [sm_B_and]
  rintro ⟨p0, p1, p2, p3, p4, p5, p6⟩
  obtain ⟨b0, b1⟩ : (0) ≤ E.I ρ X21 ∧ E.I ρ X21 < E.I ρ X114 := by
    try simp only [smA, smW] at *
    have n3 := @fn0_nn ρ (.fn 1 (.pr X20 (.fn 6 (.pr (.fn 8 (.pr X21 (.int 4))) (.int 3)))))
    have n4 := @fn0_nn ρ X125
    have n5 := @fn0_nn ρ X127
    omega
  have hrow := (t130_get (i := X21) p0 (by (try simp only [sm_I_int]); omega) b1).1
  clear b0 b1
  try simp only [smA, smW] at *
  have n3 := @fn0_nn ρ (.fn 1 (.pr X20 (.fn 6 (.pr (.fn 8 (.pr X21 (.int 4))) (.int 3)))))
  have n4 := @fn0_nn ρ X125
  have n5 := @fn0_nn ρ X127
  omega
def f26 : E := (.imp X296 X254)
theorem fact26 (ρ : Env) : E.B ρ f26 = true := by
  unfold f26
  rw [sm_B_imp]
  simp only [sm_B_and]
  rintro ⟨p0, p1, p2, p3, p4, p5, p6, p7, p8⟩
  obtain ⟨b0, b1⟩ : (0) ≤ E.I ρ X21 ∧ E.I ρ X21 < E.I ρ X114 := by
    have hk0 := t140_len p0
    try simp only [smA, smW] at *
    have n2 := @fn0_nn ρ (.fn 1 (.pr X20 (.fn 6 (.pr (.fn 8 (.pr X21 (.int 4))) (.int 3)))))
    have n3 := @fn0_nn ρ X149
    omega
  have hrow := (t130_get (i := X21) p4 (by (try simp only [sm_I_int]); omega) b1).1
  clear b0 b1
  have hk0 := t140_len p0
  try simp only [smA, smW] at *
  have n2 := @fn0_nn ρ (.fn 1 (.pr X20 (.fn 6 (.pr (.fn 8 (.pr X21 (.int 4))) (.int 3)))))
  have n3 := @fn0_nn ρ X149
  obtain ⟨a5, ea5, qa5⟩ := cs_i64 ((E.I ρ X152) + (1))
  try simp only [ea5] at *
  omega
def f27 : E := (.imp (.and X300 (.and X302 (.and X285 (.and X303 (.and X304 X264))))) (.not (.cmp .lss X305 (.int 0))))
theorem fact27 (ρ : Env) : E.B ρ f27 = true := by
  unfold f27
  rw [sm_B_imp]
  simp only [sm_B_and]
  rintro ⟨p0, p1, p2, p3, p4, p5⟩
  have hk0 := t140_len p0
  try simp only [smA, smW] at *
  have n2 := @fn0_nn ρ (.fn 1 (.pr X20 (.fn 6 (.pr (.fn 8 (.pr X21 (.int 4))) (.int 3)))))
  have n3 := @fn0_nn ρ X298
  obtain ⟨a3, ea3, qa3⟩ := cs_i64 ((E.I ρ X299) + (1))
  try simp only [ea3] at *
  omega
def f28 : E := (.imp X300 (.fn 39 X297))
theorem fact28 (ρ : Env) : E.B ρ f28 = true := by
  unfold f28
  rw [sm_B_imp]
  intro p0
  exact t39_of p0
def f29 : E := (.imp X309 (.fn 39 X297))
theorem fact29 (ρ : Env) : E.B ρ f29 = true := by
  unfold f29
  rw [sm_B_imp]
  intro p0
  exact t39_of p0
def f30 : E := (.imp X312 X254)
theorem fact30 (ρ : Env) : E.B ρ f30 = true := by
  unfold f30
  rw [sm_B_imp]
  simp only [sm_B_and]
  rintro ⟨p0, p1, p2, p3, p4, p5, p6⟩
  obtain ⟨b0, b1⟩ : (0) ≤ E.I ρ X21 ∧ E.I ρ X21 < E.I ρ X114 := by
    have hk0 := t140_len p0
    have hz0 : E.I ρ (.fn 0 (.fn 10 (.int 0))) = 0 := rfl
    try simp only [smA, smW] at *
    have n4 := @fn0_nn ρ (.fn 1 (.pr X20 (.fn 6 (.pr (.fn 8 (.pr X21 (.int 4))) (.int 3)))))
    omega
  have hrow := (t130_get (i := X21) p3 (by (try simp only [sm_I_int]); omega) b1).1
  clear b0 b1
  have hk0 := t140_len p0
  have hz0 : E.I ρ (.fn 0 (.fn 10 (.int 0))) = 0 := rfl
  try simp only [smA, smW] at *
  have n4 := @fn0_nn ρ (.fn 1 (.pr X20 (.fn 6 (.pr (.fn 8 (.pr X21 (.int 4))) (.int 3)))))
  obtain ⟨a4, ea4, qa4⟩ := cs_i64 ((E.I ρ X152) + (1))
  try simp only [ea4] at *
  omega
def f31 : E := (.imp (.and (.not X238) (.and (.not X25) (.and X266 (.and X269 (.and X271 (.and X272 X273)))))) (.not (.cmp .lss (.var 9) X3)))
theorem fact31 (ρ : Env) : E.B ρ f31 = true := by
  unfold f31
  rw [sm_B_imp]
  simp only [sm_B_and]
  rintro ⟨p0, p1, p2, p3, p4, p5, p6, p7, p8, p9⟩
  try simp only [smA, smW] at *
  have n1 := @fn0_nn ρ (.fn 1 (.pr X20 (.fn 6 (.pr (.fn 8 (.pr X21 (.int 4))) (.int 3)))))
  have n4 := @fn0_nn ρ X125
  have n6 := @fn0_nn ρ X127
  have n9 := @fn0_nn ρ X1
  have n10 := @fn0_nn ρ X5
  omega
def f32 : E := (.imp (.and X115 (.and X41 (.and X266 (.and X269 (.and X274 X277))))) (.not X278))
theorem fact32 (ρ : Env) : E.B ρ f32 = true := by
  unfold f32
  rw [sm_B_imp]
  simp only [sm_B_and]
  rintro ⟨p0, p1, p2, p3, p4, p5, p6, p7, p8⟩
  obtain ⟨b0, b1⟩ : (0) ≤ E.I ρ X21 ∧ E.I ρ X21 < E.I ρ X114 := by
    try simp only [smA, smW] at *
    have n3 := @fn0_nn ρ (.fn 1 (.pr X20 (.fn 6 (.pr (.fn 8 (.pr X21 (.int 4))) (.int 3)))))
    have n4 := @fn0_nn ρ X125
    have n8 := @fn0_nn ρ X1
    have n9 := @fn0_nn ρ X5
    omega
  have hrow := (t130_get (i := X21) p0 (by (try simp only [sm_I_int]); omega) b1).1
  clear b0 b1
  try simp only [smA, smW] at *
  have n3 := @fn0_nn ρ (.fn 1 (.pr X20 (.fn 6 (.pr (.fn 8 (.pr X21 (.int 4))) (.int 3)))))
  have n4 := @fn0_nn ρ X125
  have n8 := @fn0_nn ρ X1
  have n9 := @fn0_nn ρ X5
  omega
def f33 : E := (.imp (.and X283 (.and X159 (.and X286 X315))) (.fn 140 (.pr (.fn 34 (.pr X239 (.pr (.fn 1 (.pr (.fn 1 (.pr X20 (.fn 6 (.pr (.fn 8 (.pr X21 (.int 4))) (.int 3))))) X152)) X255))) (.pr (.fn 1 (.pr X20 (.fn 6 (.pr (.fn 8 (.pr X21 (.int 4))) (.int 3))))) (.pr X162 X279)))))
theorem fact33 (ρ : Env) : E.B ρ f33 = true := by
  unfold f33
  rw [sm_B_imp]
  simp only [sm_B_and]
  rintro ⟨p0, p1, p2, p3, p4, p5, p6, p7⟩
  have gr : (0) ≤ E.I ρ X21 := by
    have hk0 := t140_len p0
    have hm0_0 := t140_rng p0 (.fn 1 (.pr (.fn 1 (.pr X20 (.fn 6 (.pr (.fn 8 (.pr X21 (.int 4))) (.int 3))))) X152))
    try simp only [smA, smW] at *
    have n2 := @fn0_nn ρ (.fn 1 (.pr X20 (.fn 6 (.pr (.fn 8 (.pr X21 (.int 4))) (.int 3)))))
    have n3 := @fn0_nn ρ X149
    omega
  have gk := rng_l p3 (i := X21) (by (try simp only [sm_I_int]); omega) X152
  obtain ⟨g0, g1, g2, g3, g4, g5⟩ : (0) ≤ E.I ρ X152 ∧ E.I ρ X152 < E.I ρ (.fn 0 (.fn 1 (.pr X20 (.fn 6 (.pr (.fn 8 (.pr X21 (.int 4))) (.int 3)))))) ∧ E.I ρ (.fn 6 (.pr X152 (.int 0))) < (1000000) ∧ (0) ≤ (0) ∧ E.I ρ X255 = E.I ρ (.fn 6 (.pr (.fn 32 (.pr X239 (.pr (.fn 1 (.pr (.fn 1 (.pr X20 (.fn 6 (.pr (.fn 8 (.pr X21 (.int 4))) (.int 3))))) X152)) (.int 0)))) (.int 1))) ∧ E.I ρ X162 = E.I ρ (.fn 6 (.pr X152 (.int 1))) := by
    have hk0 := t140_len p0
    have hm0_0 := t140_rng p0 (.fn 1 (.pr (.fn 1 (.pr X20 (.fn 6 (.pr (.fn 8 (.pr X21 (.int 4))) (.int 3))))) X152))
    try simp only [smA, smW] at *
    have n2 := @fn0_nn ρ (.fn 1 (.pr X20 (.fn 6 (.pr (.fn 8 (.pr X21 (.int 4))) (.int 3)))))
    have n3 := @fn0_nn ρ X149
    obtain ⟨a5, ea5, qa5⟩ := cs_i64 ((E.I ρ (.fn 32 (.pr X239 (.pr (.fn 1 (.pr (.fn 1 (.pr X20 (.fn 6 (.pr (.fn 8 (.pr X21 (.int 4))) (.int 3))))) X152)) (.int 0))))) + (1))
    try simp only [ea5] at *
    obtain ⟨a6, ea6, qa6⟩ := cs_i64 ((E.I ρ X152) + (1))
    try simp only [ea6] at *
    omega
  exact t140_add p0 (by (try simp only [sm_I_int]); omega) g1 g2 (by (try simp only [sm_I_int]); omega) gk.1 gk.2 g4 g5
def f34 : E := (.imp X321 (.not (.cmp .lss (.fn 0 (.fn 1 (.pr X20 (.fn 6 (.pr (.fn 8 (.pr X21 (.int 4))) (.int 3)))))) X305)))
theorem fact34 (ρ : Env) : E.B ρ f34 = true := by
  unfold f34
  rw [sm_B_imp]
  simp only [sm_B_and]
  rintro ⟨p0, p1, p2, p3, p4, p5, p6, p7, p8⟩
  obtain ⟨b0, b1⟩ : (0) ≤ E.I ρ X21 ∧ E.I ρ X21 < E.I ρ X114 := by
    have hk0 := t140_len p0
    try simp only [smA, smW] at *
    have n2 := @fn0_nn ρ (.fn 1 (.pr X20 (.fn 6 (.pr (.fn 8 (.pr X21 (.int 4))) (.int 3)))))
    have n3 := @fn0_nn ρ X298
    omega
  have hrow := (t130_get (i := X21) p4 (by (try simp only [sm_I_int]); omega) b1).1
  clear b0 b1
  have hk0 := t140_len p0
  try simp only [smA, smW] at *
  have n2 := @fn0_nn ρ (.fn 1 (.pr X20 (.fn 6 (.pr (.fn 8 (.pr X21 (.int 4))) (.int 3)))))
  have n3 := @fn0_nn ρ X298
  obtain ⟨a5, ea5, qa5⟩ := cs_i64 ((E.I ρ X299) + (1))
  try simp only [ea5] at *
  omega
def f35 : E := (.imp (.and X300 (.and (.not (.cmp .lss (.fn 0 (.fn 1 (.pr X20 (.fn 6 (.pr (.fn 8 (.pr X21 (.int 4))) (.int 3)))))) X299)) (.and X303 (.not X304)))) (.fn 140 (.pr X297 (.pr (.fn 1 (.pr X20 (.fn 6 (.pr (.fn 8 (.pr X21 (.int 4))) (.int 3))))) (.pr (.fn 0 (.fn 1 (.pr X20 (.fn 6 (.pr (.fn 8 (.pr X21 (.int 4))) (.int 3)))))) (.pr X298 (.fn 0 (.fn 1 (.pr X20 (.fn 6 (.pr (.fn 8 (.pr X21 (.int 4))) (.int 3))))))))))))
theorem fact35 (ρ : Env) : E.B ρ f35 = true := by
  unfold f35
  rw [sm_B_imp]
  simp only [sm_B_and]
  rintro ⟨p0, p1, p2, p3⟩
  have g0 : E.I ρ (.fn 0 (.fn 1 (.pr X20 (.fn 6 (.pr (.fn 8 (.pr X21 (.int 4))) (.int 3)))))) = E.I ρ (.fn 0 (.fn 1 (.pr X20 (.fn 6 (.pr (.fn 8 (.pr X21 (.int 4))) (.int 3)))))) := rfl
  have g1 : E.I ρ (.fn 0 (.fn 1 (.pr X20 (.fn 6 (.pr (.fn 8 (.pr X21 (.int 4))) (.int 3)))))) = E.I ρ X299 := by
    have hk0 := t140_len p0
    try simp only [smA, smW] at *
    have n1 := @fn0_nn ρ (.fn 1 (.pr X20 (.fn 6 (.pr (.fn 8 (.pr X21 (.int 4))) (.int 3)))))
    have n3 := @fn0_nn ρ X298
    omega
  exact t140_eq p0 g0 g1
def f36 : E := (.imp (.and X309 (.and (.not (.cmp .lss (.int 0) X299)) X302)) (.fn 140 (.pr X297 X288)))
theorem fact36 (ρ : Env) : E.B ρ f36 = true := by
  unfold f36
  rw [sm_B_imp]
  simp only [sm_B_and]
  rintro ⟨p0, p1, p2⟩
  have g0 : E.I ρ (.fn 0 (.fn 1 (.pr X20 (.fn 6 (.pr (.fn 8 (.pr X21 (.int 4))) (.int 3)))))) = E.I ρ (.fn 0 (.fn 1 (.pr X20 (.fn 6 (.pr (.fn 8 (.pr X21 (.int 4))) (.int 3)))))) := rfl
  have g1 : (0) = E.I ρ X299 := by
    have hk0 := t140_len p0
    have hz0 : E.I ρ (.fn 0 (.fn 10 (.int 0))) = 0 := rfl
    try simp only [smA, smW] at *
    omega
  exact t140_eq p0 g0 g1
def f37 : E := (.imp (.and X240 (.and X159 X315)) X258)
theorem fact37 (ρ : Env) : E.B ρ f37 = true := by
  unfold f37
  rw [sm_B_imp]
  simp only [sm_B_and]
  rintro ⟨p0, p1, p2, p3, p4, p5, p6⟩
  have gr : (0) ≤ E.I ρ X21 := by
    have hk0 := t140_len p0
    have hz0 : E.I ρ (.fn 0 (.fn 10 (.int 0))) = 0 := rfl
    have hm0_0 := t140_rng p0 (.fn 1 (.pr (.fn 1 (.pr X20 (.fn 6 (.pr (.fn 8 (.pr X21 (.int 4))) (.int 3))))) X152))
    try simp only [smA, smW] at *
    have n2 := @fn0_nn ρ (.fn 1 (.pr X20 (.fn 6 (.pr (.fn 8 (.pr X21 (.int 4))) (.int 3)))))
    omega
  have gk := rng_l p2 (i := X21) (by (try simp only [sm_I_int]); omega) X152
  obtain ⟨g0, g1, g2, g3, g4, g5⟩ : (0) ≤ E.I ρ X152 ∧ E.I ρ X152 < E.I ρ (.fn 0 (.fn 1 (.pr X20 (.fn 6 (.pr (.fn 8 (.pr X21 (.int 4))) (.int 3)))))) ∧ E.I ρ (.fn 6 (.pr X152 (.int 0))) < (1000000) ∧ (0) ≤ (0) ∧ E.I ρ X255 = E.I ρ (.fn 6 (.pr (.fn 32 (.pr X239 (.pr (.fn 1 (.pr (.fn 1 (.pr X20 (.fn 6 (.pr (.fn 8 (.pr X21 (.int 4))) (.int 3))))) X152)) (.int 0)))) (.int 1))) ∧ E.I ρ X162 = E.I ρ (.fn 6 (.pr X152 (.int 1))) := by
    have hk0 := t140_len p0
    have hz0 : E.I ρ (.fn 0 (.fn 10 (.int 0))) = 0 := rfl
    have hm0_0 := t140_rng p0 (.fn 1 (.pr (.fn 1 (.pr X20 (.fn 6 (.pr (.fn 8 (.pr X21 (.int 4))) (.int 3))))) X152))
    try simp only [smA, smW] at *
    have n2 := @fn0_nn ρ (.fn 1 (.pr X20 (.fn 6 (.pr (.fn 8 (.pr X21 (.int 4))) (.int 3)))))
    obtain ⟨a4, ea4, qa4⟩ := cs_i64 ((E.I ρ (.fn 32 (.pr X239 (.pr (.fn 1 (.pr (.fn 1 (.pr X20 (.fn 6 (.pr (.fn 8 (.pr X21 (.int 4))) (.int 3))))) X152)) (.int 0))))) + (1))
    try simp only [ea4] at *
    obtain ⟨a5, ea5, qa5⟩ := cs_i64 ((E.I ρ X152) + (1))
    try simp only [ea5] at *
    omega
  exact t140_add p0 (by (try simp only [sm_I_int]); omega) g1 g2 (by (try simp only [sm_I_int]); omega) gk.1 gk.2 g4 g5
def f38 : E := (.imp (.and X2 (.and X4 (.and X29 (.and X6 (.and (.not X238) X324))))) X196)
theorem fact38 (ρ : Env) : E.B ρ f38 = true := by
  unfold f38
  rw [sm_B_imp]
  simp only [sm_B_and]
  rintro ⟨p0, p1, p2, p3, p4, p5, p6, p7, p8, p9⟩
  try simp only [smA, smW] at *
  have n2 := @fn0_nn ρ X1
  have n5 := @fn0_nn ρ X5
  have n6 := @fn0_nn ρ (.fn 1 (.pr X20 (.fn 6 (.pr (.fn 8 (.pr X21 (.int 4))) (.int 3)))))
  have n7 := @fn0_nn ρ X125
  have n8 := @fn0_nn ρ X127
  omega
def f39 : E := (.imp X327 (.not (.cmp .lss X0 (.var 9))))
theorem fact39 (ρ : Env) : E.B ρ f39 = true := by
  unfold f39
  rw [sm_B_imp]
  simp only [sm_B_and]
  rintro ⟨p0, p1, p2, p3, p4, p5, p6⟩
  try simp only [smA, smW] at *
  have n1 := @fn0_nn ρ (.fn 1 (.pr X20 (.fn 6 (.pr (.fn 8 (.pr X21 (.int 4))) (.int 3)))))
  have n2 := @fn0_nn ρ X125
  have n6 := @fn0_nn ρ X127
  have n8 := @fn0_nn ρ X1
  have n9 := @fn0_nn ρ X5
  omega
def f40 : E := (.imp X296 X259)
theorem fact40 (ρ : Env) : E.B ρ f40 = true := by
  unfold f40
  rw [sm_B_imp]
  simp only [sm_B_and]
  rintro ⟨p0, p1, p2, p3, p4, p5, p6, p7, p8⟩
  obtain ⟨b0, b1⟩ : (0) ≤ E.I ρ X21 ∧ E.I ρ X21 < E.I ρ X114 := by
    have hk0 := t140_len p0
    try simp only [smA, smW] at *
    have n2 := @fn0_nn ρ (.fn 1 (.pr X20 (.fn 6 (.pr (.fn 8 (.pr X21 (.int 4))) (.int 3)))))
    have n3 := @fn0_nn ρ X149
    omega
  have hrow := (t130_get (i := X21) p4 (by (try simp only [sm_I_int]); omega) b1).1
  clear b0 b1
  have hk0 := t140_len p0
  try simp only [smA, smW] at *
  have n2 := @fn0_nn ρ (.fn 1 (.pr X20 (.fn 6 (.pr (.fn 8 (.pr X21 (.int 4))) (.int 3)))))
  have n3 := @fn0_nn ρ X149
  obtain ⟨a5, ea5, qa5⟩ := cs_i64 ((E.I ρ X152) + (1))
  try simp only [ea5] at *
  omega
def f41 : E := (.imp (.and X300 (.and X302 (.and (.fn 101 (.pr X298 X270)) (.and X303 (.and (.fn 27 (.pr (.fn 23 (.pr (.int 3) (.fn 23 (.pr (.int 3) (.fn 23 (.pr (.int 3) (.fn 23 (.pr (.fn 23 (.pr (.int 3) (.fn 10 (.int 0)))) (.fn 10 (.int 0)))))))))) X20)) (.and X304 X314)))))) (.fn 140 (.pr (.fn 34 (.pr X297 (.pr (.fn 1 (.pr X298 X299)) X328))) (.pr (.fn 1 (.pr X20 (.fn 6 (.pr (.fn 8 (.pr X21 (.int 4))) (.int 3))))) (.pr (.fn 0 (.fn 1 (.pr X20 (.fn 6 (.pr (.fn 8 (.pr X21 (.int 4))) (.int 3)))))) (.pr X298 X305))))))
theorem fact41 (ρ : Env) : E.B ρ f41 = true := by
  unfold f41
  rw [sm_B_imp]
  simp only [sm_B_and]
  rintro ⟨p0, p1, p2, p3, p4, p5, p6, p7, p8⟩
  have gr : (0) ≤ E.I ρ X21 := by
    have hk0 := t140_len p0
    have hm0_0 := t140_rng p0 (.fn 1 (.pr X298 X299))
    try simp only [smA, smW] at *
    have n2 := @fn0_nn ρ (.fn 1 (.pr X20 (.fn 6 (.pr (.fn 8 (.pr X21 (.int 4))) (.int 3)))))
    have n3 := @fn0_nn ρ X298
    omega
  have gk := rng_x p4 (i := X21) (by (try simp only [sm_I_int]); omega) p2 X299
  obtain ⟨g0, g1, g2, g3, g4, g5⟩ : (0) ≤ E.I ρ X299 ∧ E.I ρ X299 < E.I ρ (.fn 0 X298) ∧ E.I ρ (.fn 6 (.pr (.fn 0 (.fn 1 (.pr X20 (.fn 6 (.pr (.fn 8 (.pr X21 (.int 4))) (.int 3)))))) X299)) < (1000000) ∧ (0) ≤ E.I ρ (.fn 0 (.fn 1 (.pr X20 (.fn 6 (.pr (.fn 8 (.pr X21 (.int 4))) (.int 3)))))) ∧ E.I ρ X328 = E.I ρ (.fn 7 (.pr (.fn 32 (.pr X297 (.pr (.fn 1 (.pr X298 X299)) (.int 0)))) (.int 1))) ∧ E.I ρ X305 = E.I ρ (.fn 6 (.pr X299 (.int 1))) := by
    have hk0 := t140_len p0
    have hm0_0 := t140_rng p0 (.fn 1 (.pr X298 X299))
    try simp only [smA, smW] at *
    have n2 := @fn0_nn ρ (.fn 1 (.pr X20 (.fn 6 (.pr (.fn 8 (.pr X21 (.int 4))) (.int 3)))))
    have n3 := @fn0_nn ρ X298
    obtain ⟨a5, ea5, qa5⟩ := cs_i64 ((E.I ρ (.fn 32 (.pr X297 (.pr (.fn 1 (.pr X298 X299)) (.int 0))))) - (1))
    try simp only [ea5] at *
    obtain ⟨a6, ea6, qa6⟩ := cs_i64 ((E.I ρ X299) + (1))
    try simp only [ea6] at *
    omega
  exact t140_sub p0 (by (try simp only [sm_I_int]); omega) g1 g2 (by (try simp only [sm_I_int]); omega) gk.1 gk.2 g4 g5
def f42 : E := (.imp (.and X329 (.and X331 X4)) (.not (.cmp .lss X330 (.int 0))))
theorem fact42 (ρ : Env) : E.B ρ f42 = true := by
  unfold f42
  rw [sm_B_imp]
  simp only [sm_B_and]
  rintro ⟨p0, p1, p2⟩
  have hk0 := t140_len p0
  try simp only [smA, smW] at *
  omega
def f43 : E := (.imp (.and X329 X342) (.not (.cmp .lss (.var 48) X343)))
theorem fact43 (ρ : Env) : E.B ρ f43 = true := by
  unfold f43
  rw [sm_B_imp]
  simp only [sm_B_and]
  rintro ⟨p0, p1, p2, p3, p4, p5, p6, p7⟩
  have hk0 := t140_len p0
  try simp only [smA, smW] at *
  have n7 := @fn0_nn ρ X1
  have n8 := @fn0_nn ρ X5
  obtain ⟨a8, ea8, qa8⟩ := cs_i64 ((E.I ρ X0) - (E.I ρ X333))
  try simp only [ea8] at *
  omega
def f44 : E := (.imp (.and X329 (.and (.fn 101 (.pr (.var 50) X270)) (.and (.cmp .eql (.fn 0 (.fn 1 (.pr X20 (.fn 6 (.pr (.fn 8 (.pr X21 (.int 4))) (.int 3)))))) (.fn 0 (.var 50))) (.fn 33 (.pr (.var 52) (.var 54)))))) (.cmp .eql (.fn 32 (.pr (.var 52) (.pr (.var 54) (.int 0)))) (.int 0)))
theorem fact44 (ρ : Env) : E.B ρ f44 = true := by
  unfold f44
  rw [sm_B_imp]
  simp only [sm_B_and]
  rintro ⟨p0, p1, p2, p3⟩
  obtain ⟨g0, g1⟩ : E.I ρ (.fn 0 (.fn 1 (.pr X20 (.fn 6 (.pr (.fn 8 (.pr X21 (.int 4))) (.int 3)))))) ≤ E.I ρ (.fn 0 (.fn 1 (.pr X20 (.fn 6 (.pr (.fn 8 (.pr X21 (.int 4))) (.int 3)))))) ∧ E.I ρ (.fn 0 (.var 50)) ≤ E.I ρ (.fn 0 (.fn 1 (.pr X20 (.fn 6 (.pr (.fn 8 (.pr X21 (.int 4))) (.int 3)))))) := by
    have hk0 := t140_len p0
    have hm0_0 := t140_rng p0 (.var 54)
    try simp only [smA, smW] at *
    have n1 := @fn0_nn ρ (.fn 1 (.pr X20 (.fn 6 (.pr (.fn 8 (.pr X21 (.int 4))) (.int 3)))))
    have n2 := @fn0_nn ρ (.var 50)
    omega
  rw [sm_B_eql]
  exact t140_end p0 p1 (by (try simp only [sm_I_int]); omega) (by (try simp only [sm_I_int]); omega) p3
def f45 : E := (.imp (.and X344 (.and X331 X4)) (.not (.cmp .lss X330 (.int 0))))
theorem fact45 (ρ : Env) : E.B ρ f45 = true := by
  unfold f45
  rw [sm_B_imp]
  simp only [sm_B_and]
  rintro ⟨p0, p1, p2⟩
  have hk0 := t140_len p0
  have hz0 : E.I ρ (.fn 0 (.fn 10 (.int 0))) = 0 := rfl
  try simp only [smA, smW] at *
  omega
def f46 : E := (.imp (.and X344 X342) (.not (.cmp .lss (.var 48) X343)))
theorem fact46 (ρ : Env) : E.B ρ f46 = true := by
  unfold f46
  rw [sm_B_imp]
  simp only [sm_B_and]
  rintro ⟨p0, p1, p2, p3, p4, p5, p6, p7⟩
  have hk0 := t140_len p0
  have hz0 : E.I ρ (.fn 0 (.fn 10 (.int 0))) = 0 := rfl
  try simp only [smA, smW] at *
  have n7 := @fn0_nn ρ X1
  have n8 := @fn0_nn ρ X5
  obtain ⟨a8, ea8, qa8⟩ := cs_i64 ((E.I ρ X0) - (E.I ρ X333))
  try simp only [ea8] at *
  omega
def f47 : E := (.imp (.and X240 (.and X159 X293)) X259)
theorem fact47 (ρ : Env) : E.B ρ f47 = true := by
  unfold f47
  rw [sm_B_imp]
  simp only [sm_B_and]
  rintro ⟨p0, p1, p2, p3, p4, p5, p6, p7⟩
  obtain ⟨b0, b1⟩ : (0) ≤ E.I ρ X21 ∧ E.I ρ X21 < E.I ρ X114 := by
    have hk0 := t140_len p0
    have hz0 : E.I ρ (.fn 0 (.fn 10 (.int 0))) = 0 := rfl
    try simp only [smA, smW] at *
    have n4 := @fn0_nn ρ (.fn 1 (.pr X20 (.fn 6 (.pr (.fn 8 (.pr X21 (.int 4))) (.int 3)))))
    omega
  have hrow := (t130_get (i := X21) p3 (by (try simp only [sm_I_int]); omega) b1).1
  clear b0 b1
  have hk0 := t140_len p0
  have hz0 : E.I ρ (.fn 0 (.fn 10 (.int 0))) = 0 := rfl
  try simp only [smA, smW] at *
  have n4 := @fn0_nn ρ (.fn 1 (.pr X20 (.fn 6 (.pr (.fn 8 (.pr X21 (.int 4))) (.int 3)))))
  obtain ⟨a4, ea4, qa4⟩ := cs_i64 ((E.I ρ X152) + (1))
  try simp only [ea4] at *
  omega
def f48 : E := (.imp (.and X2 (.and X4 (.and X29 (.and X6 X324)))) (.not (.cmp .lss (.int 0) X103)))
theorem fact48 (ρ : Env) : E.B ρ f48 = true := by
  unfold f48
  rw [sm_B_imp]
  simp only [sm_B_and]
  rintro ⟨p0, p1, p2, p3, p4, p5, p6, p7, p8⟩
  try simp only [smA, smW] at *
  have n2 := @fn0_nn ρ X1
  have n5 := @fn0_nn ρ X5
  have n6 := @fn0_nn ρ (.fn 1 (.pr X20 (.fn 6 (.pr (.fn 8 (.pr X21 (.int 4))) (.int 3)))))
  have n7 := @fn0_nn ρ X125
  have n8 := @fn0_nn ρ X127
  omega
def f49 : E := (.imp X296 X262)
theorem fact49 (ρ : Env) : E.B ρ f49 = true := by
  unfold f49
  rw [sm_B_imp]
  simp only [sm_B_and]
  rintro ⟨p0, p1, p2, p3, p4, p5, p6, p7, p8⟩
  obtain ⟨b0, b1⟩ : (0) ≤ E.I ρ X21 ∧ E.I ρ X21 < E.I ρ X114 := by
    have hk0 := t140_len p0
    try simp only [smA, smW] at *
    have n2 := @fn0_nn ρ (.fn 1 (.pr X20 (.fn 6 (.pr (.fn 8 (.pr X21 (.int 4))) (.int 3)))))
    have n3 := @fn0_nn ρ X149
    omega
  have hrow := (t130_get (i := X21) p4 (by (try simp only [sm_I_int]); omega) b1).1
  clear b0 b1
  have hk0 := t140_len p0
  try simp only [smA, smW] at *
  have n2 := @fn0_nn ρ (.fn 1 (.pr X20 (.fn 6 (.pr (.fn 8 (.pr X21 (.int 4))) (.int 3)))))
  have n3 := @fn0_nn ρ X149
  obtain ⟨a5, ea5, qa5⟩ := cs_i64 ((E.I ρ X152) + (1))
  try simp only [ea5] at *
  omega
def f50 : E := (.imp X321 (.cmp .lss (.fn 7 (.pr (.fn 0 (.fn 1 (.pr X20 (.fn 6 (.pr (.fn 8 (.pr X21 (.int 4))) (.int 3)))))) X305)) (.fn 7 (.pr (.fn 0 (.fn 1 (.pr X20 (.fn 6 (.pr (.fn 8 (.pr X21 (.int 4))) (.int 3)))))) X299))))
theorem fact50 (ρ : Env) : E.B ρ f50 = true := by
  unfold f50
  rw [sm_B_imp]
  simp only [sm_B_and]
  rintro ⟨p0, p1, p2, p3, p4, p5, p6, p7, p8⟩
  obtain ⟨b0, b1⟩ : (0) ≤ E.I ρ X21 ∧ E.I ρ X21 < E.I ρ X114 := by
    have hk0 := t140_len p0
    try simp only [smA, smW] at *
    have n2 := @fn0_nn ρ (.fn 1 (.pr X20 (.fn 6 (.pr (.fn 8 (.pr X21 (.int 4))) (.int 3)))))
    have n3 := @fn0_nn ρ X298
    omega
  have hrow := (t130_get (i := X21) p4 (by (try simp only [sm_I_int]); omega) b1).1
  clear b0 b1
  have hk0 := t140_len p0
  try simp only [smA, smW] at *
  have n2 := @fn0_nn ρ (.fn 1 (.pr X20 (.fn 6 (.pr (.fn 8 (.pr X21 (.int 4))) (.int 3)))))
  have n3 := @fn0_nn ρ X298
  obtain ⟨a5, ea5, qa5⟩ := cs_i64 ((E.I ρ X299) + (1))
  try simp only [ea5] at *
  omega
def f51 : E := (.imp X312 X262)
theorem fact51 (ρ : Env) : E.B ρ f51 = true := by
  unfold f51
  rw [sm_B_imp]
  simp only [sm_B_and]
  rintro ⟨p0, p1, p2, p3, p4, p5, p6⟩
  obtain ⟨b0, b1⟩ : (0) ≤ E.I ρ X21 ∧ E.I ρ X21 < E.I ρ X114 := by
    have hk0 := t140_len p0
    have hz0 : E.I ρ (.fn 0 (.fn 10 (.int 0))) = 0 := rfl
    try simp only [smA, smW] at *
    have n4 := @fn0_nn ρ (.fn 1 (.pr X20 (.fn 6 (.pr (.fn 8 (.pr X21 (.int 4))) (.int 3)))))
    omega
  have hrow := (t130_get (i := X21) p3 (by (try simp only [sm_I_int]); omega) b1).1
  clear b0 b1
  have hk0 := t140_len p0
  have hz0 : E.I ρ (.fn 0 (.fn 10 (.int 0))) = 0 := rfl
  try simp only [smA, smW] at *
  have n4 := @fn0_nn ρ (.fn 1 (.pr X20 (.fn 6 (.pr (.fn 8 (.pr X21 (.int 4))) (.int 3)))))
  obtain ⟨a4, ea4, qa4⟩ := cs_i64 ((E.I ρ X152) + (1))
  try simp only [ea4] at *
  omega
def f52 : E := (.imp X345 (.cmp .eql (.fn 6 (.pr X103 X3)) (.var 9)))
theorem fact52 (ρ : Env) : E.B ρ f52 = true := by
  unfold f52
  rw [sm_B_imp]
  simp only [sm_B_and]
  rintro ⟨p0, p1, p2, p3⟩
  try simp only [smA, smW] at *
  have n1 := @fn0_nn ρ (.fn 1 (.pr X20 (.fn 6 (.pr (.fn 8 (.pr X21 (.int 4))) (.int 3)))))
  have n2 := @fn0_nn ρ X125
  have n5 := @fn0_nn ρ X127
  omega
def f53 : E := (.imp (.and X2 (.and X4 (.and X29 (.and X6 (.and (.not X238) (.and (.not X25) X345)))))) X196)
theorem fact53 (ρ : Env) : E.B ρ f53 = true := by
  unfold f53
  rw [sm_B_imp]
  simp only [sm_B_and]
  rintro ⟨p0, p1, p2, p3, p4, p5, p6, p7, p8, p9⟩
  try simp only [smA, smW] at *
  have n2 := @fn0_nn ρ X1
  have n5 := @fn0_nn ρ X5
  have n6 := @fn0_nn ρ (.fn 1 (.pr X20 (.fn 6 (.pr (.fn 8 (.pr X21 (.int 4))) (.int 3)))))
  have n7 := @fn0_nn ρ X125
  have n9 := @fn0_nn ρ X127
  omega
def f54 : E := (.imp X321 (.not (.cmp .lss (.fn 7 (.pr (.fn 0 (.fn 1 (.pr X20 (.fn 6 (.pr (.fn 8 (.pr X21 (.int 4))) (.int 3)))))) X305)) (.int 0))))
theorem fact54 (ρ : Env) : E.B ρ f54 = true := by
  unfold f54
  rw [sm_B_imp]
  simp only [sm_B_and]
  rintro ⟨p0, p1, p2, p3, p4, p5, p6, p7, p8⟩
  obtain ⟨b0, b1⟩ : (0) ≤ E.I ρ X21 ∧ E.I ρ X21 < E.I ρ X114 := by
    have hk0 := t140_len p0
    try simp only [smA, smW] at *
    have n2 := @fn0_nn ρ (.fn 1 (.pr X20 (.fn 6 (.pr (.fn 8 (.pr X21 (.int 4))) (.int 3)))))
    have n3 := @fn0_nn ρ X298
    omega
  have hrow := (t130_get (i := X21) p4 (by (try simp only [sm_I_int]); omega) b1).1
  clear b0 b1
  have hk0 := t140_len p0
  try simp only [smA, smW] at *
  have n2 := @fn0_nn ρ (.fn 1 (.pr X20 (.fn 6 (.pr (.fn 8 (.pr X21 (.int 4))) (.int 3)))))
  have n3 := @fn0_nn ρ X298
  obtain ⟨a5, ea5, qa5⟩ := cs_i64 ((E.I ρ X299) + (1))
  try simp only [ea5] at *
  omega
def f55 : E := (.imp X351 X352)
theorem fact55 (ρ : Env) : E.B ρ f55 = true := by
  unfold f55
  rw [sm_B_imp]
  simp only [sm_B_and]
  rintro ⟨p0, p1, p2, p3, p4, p5, p6, p7, p8, p9, p10⟩
  have hk0 := t140_len p0
  try simp only [smA, smW] at *
  have n7 := @fn0_nn ρ X1
  have n8 := @fn0_nn ρ X5
  obtain ⟨a8, ea8, qa8⟩ := cs_i64 ((E.I ρ X0) - (E.I ρ X333))
  try simp only [ea8] at *
  obtain ⟨a9, ea9, qa9⟩ := cs_i64 ((E.I ρ X330) - (E.I ρ X332))
  try simp only [ea9] at *
  omega
def f56 : E := (.imp X353 X352)
theorem fact56 (ρ : Env) : E.B ρ f56 = true := by
  unfold f56
  rw [sm_B_imp]
  simp only [sm_B_and]
  rintro ⟨p0, p1, p2, p3, p4, p5, p6, p7, p8, p9, p10⟩
  have hk0 := t140_len p0
  have hz0 : E.I ρ (.fn 0 (.fn 10 (.int 0))) = 0 := rfl
  try simp only [smA, smW] at *
  have n7 := @fn0_nn ρ X1
  have n8 := @fn0_nn ρ X5
  obtain ⟨a8, ea8, qa8⟩ := cs_i64 ((E.I ρ X0) - (E.I ρ X333))
  try simp only [ea8] at *
  obtain ⟨a9, ea9, qa9⟩ := cs_i64 ((E.I ρ X330) - (E.I ρ X332))
  try simp only [ea9] at *
  omega
def f57 : E := (.imp (.fn 27 (.pr (.fn 23 (.pr (.int 3) (.fn 23 (.pr (.int 3) (.fn 23 (.pr (.int 3) (.fn 23 (.pr (.fn 23 (.pr (.int 3) (.fn 10 (.int 0)))) (.fn 10 (.int 0)))))))))) X20)) (.fn 140 (.pr (.fn 10 (.int 0)) (.pr (.fn 1 (.pr X20 (.fn 6 (.pr (.fn 8 (.pr X21 (.int 4))) (.int 3))))) (.pr (.int 0) (.pr X125 (.int 0)))))))
theorem fact57 (ρ : Env) : E.B ρ f57 = true := by
  unfold f57
  rw [sm_B_imp]
  intro p0
  have g0 : E.I ρ (.int 0) = E.I ρ (.int 0) := rfl
  have g1 : E.I ρ (.int 0) = E.I ρ (.int 0) := rfl
  exact t140_start g0 g1
def f58 : E := (.imp X327 (.not (.cmp .lss (.fn 7 (.pr X0 X3)) X103)))
theorem fact58 (ρ : Env) : E.B ρ f58 = true := by
  unfold f58
  rw [sm_B_imp]
  simp only [sm_B_and]
  rintro ⟨p0, p1, p2, p3, p4, p5, p6⟩
  try simp only [smA, smW] at *
  have n1 := @fn0_nn ρ (.fn 1 (.pr X20 (.fn 6 (.pr (.fn 8 (.pr X21 (.int 4))) (.int 3)))))
  have n2 := @fn0_nn ρ X125
  have n6 := @fn0_nn ρ X127
  have n8 := @fn0_nn ρ X1
  have n9 := @fn0_nn ρ X5
  omega
def f59 : E := (.imp X351 X354)
theorem fact59 (ρ : Env) : E.B ρ f59 = true := by
  unfold f59
  rw [sm_B_imp]
  simp only [sm_B_and]
  rintro ⟨p0, p1, p2, p3, p4, p5, p6, p7, p8, p9, p10⟩
  have hk0 := t140_len p0
  try simp only [smA, smW] at *
  have n7 := @fn0_nn ρ X1
  have n8 := @fn0_nn ρ X5
  obtain ⟨a8, ea8, qa8⟩ := cs_i64 ((E.I ρ X0) - (E.I ρ X333))
  try simp only [ea8] at *
  obtain ⟨a9, ea9, qa9⟩ := cs_i64 ((E.I ρ X333) + a8)
  try simp only [ea9] at *
  omega
def f60 : E := (.imp X353 X354)
theorem fact60 (ρ : Env) : E.B ρ f60 = true := by
  unfold f60
  rw [sm_B_imp]
  simp only [sm_B_and]
  rintro ⟨p0, p1, p2, p3, p4, p5, p6, p7, p8, p9, p10⟩
  have hk0 := t140_len p0
  have hz0 : E.I ρ (.fn 0 (.fn 10 (.int 0))) = 0 := rfl
  try simp only [smA, smW] at *
  have n7 := @fn0_nn ρ X1
  have n8 := @fn0_nn ρ X5
  obtain ⟨a8, ea8, qa8⟩ := cs_i64 ((E.I ρ X0) - (E.I ρ X333))
  try simp only [ea8] at *
  obtain ⟨a9, ea9, qa9⟩ := cs_i64 ((E.I ρ X333) + a8)
  try simp only [ea9] at *
  omega
def f61 : E := (.imp (.and X329 X357) (.not (.cmp .lss X333 (.int 0))))
theorem fact61 (ρ : Env) : E.B ρ f61 = true := by
  unfold f61
  rw [sm_B_imp]
  simp only [sm_B_and]
  rintro ⟨p0, p1, p2, p3, p4, p5, p6⟩
  have hk0 := t140_len p0
  try simp only [smA, smW] at *
  have n6 := @fn0_nn ρ X1
  have n7 := @fn0_nn ρ X5
  omega
def f62 : E := (.imp (.and X344 X357) (.not (.cmp .lss X333 (.int 0))))
theorem fact62 (ρ : Env) : E.B ρ f62 = true := by
  unfold f62
  rw [sm_B_imp]
  simp only [sm_B_and]
  rintro ⟨p0, p1, p2, p3, p4, p5, p6⟩
  have hk0 := t140_len p0
  have hz0 : E.I ρ (.fn 0 (.fn 10 (.int 0))) = 0 := rfl
  try simp only [smA, smW] at *
  have n6 := @fn0_nn ρ X1
  have n7 := @fn0_nn ρ X5
  omega
def f63 : E := (.imp (.and X329 X46) X49)
theorem fact63 (ρ : Env) : E.B ρ f63 = true := by
  unfold f63
  rw [sm_B_imp]
  simp only [sm_B_and]
  rintro ⟨p0, p1, p2, p3⟩
  have hk0 := t140_len p0
  try simp only [smA, smW] at *
  obtain ⟨a2, ea2, qa2⟩ := cs_i64 ((E.I ρ X21) + (1))
  try simp only [ea2] at *
  omega
def f64 : E := (.imp X358 X49)
theorem fact64 (ρ : Env) : E.B ρ f64 = true := by
  unfold f64
  rw [sm_B_imp]
  simp only [sm_B_and]
  rintro ⟨p0, p1, p2, p3⟩
  have hk0 := t140_len p0
  have hz0 : E.I ρ (.fn 0 (.fn 10 (.int 0))) = 0 := rfl
  try simp only [smA, smW] at *
  obtain ⟨a2, ea2, qa2⟩ := cs_i64 ((E.I ρ X21) + (1))
  try simp only [ea2] at *
  omega
def f65 : E := (.imp (.and X329 X72) X74)
theorem fact65 (ρ : Env) : E.B ρ f65 = true := by
  unfold f65
  rw [sm_B_imp]
  simp only [sm_B_and]
  rintro ⟨p0, p1, p2⟩
  have hk0 := t140_len p0
  try simp only [smA, smW] at *
  obtain ⟨a2, ea2, qa2⟩ := cs_i64 ((E.I ρ X21) + (1))
  try simp only [ea2] at *
  omega
def f66 : E := (.imp X358 X74)
theorem fact66 (ρ : Env) : E.B ρ f66 = true := by
  unfold f66
  rw [sm_B_imp]
  simp only [sm_B_and]
  rintro ⟨p0, p1, p2, p3⟩
  have hk0 := t140_len p0
  have hz0 : E.I ρ (.fn 0 (.fn 10 (.int 0))) = 0 := rfl
  try simp only [smA, smW] at *
  obtain ⟨a2, ea2, qa2⟩ := cs_i64 ((E.I ρ X21) + (1))
  try simp only [ea2] at *
  omega
def f67 : E := (.imp (.and X329 X46) X80)
theorem fact67 (ρ : Env) : E.B ρ f67 = true := by
  unfold f67
  rw [sm_B_imp]
  simp only [sm_B_and]
  rintro ⟨p0, p1, p2, p3⟩
  have hk0 := t140_len p0
  try simp only [smA, smW] at *
  obtain ⟨a2, ea2, qa2⟩ := cs_i64 ((E.I ρ X21) + (1))
  try simp only [ea2] at *
  omega
def f68 : E := (.imp X358 X80)
theorem fact68 (ρ : Env) : E.B ρ f68 = true := by
  unfold f68
  rw [sm_B_imp]
  simp only [sm_B_and]
  rintro ⟨p0, p1, p2, p3⟩
  have hk0 := t140_len p0
  have hz0 : E.I ρ (.fn 0 (.fn 10 (.int 0))) = 0 := rfl
  try simp only [smA, smW] at *
  obtain ⟨a2, ea2, qa2⟩ := cs_i64 ((E.I ρ X21) + (1))
  try simp only [ea2] at *
  omega
def f69 : E := (.imp (.and X329 X72) X86)
theorem fact69 (ρ : Env) : E.B ρ f69 = true := by
  unfold f69
  rw [sm_B_imp]
  simp only [sm_B_and]
  rintro ⟨p0, p1, p2⟩
  have hk0 := t140_len p0
  try simp only [smA, smW] at *
  obtain ⟨a2, ea2, qa2⟩ := cs_i64 ((E.I ρ X21) + (1))
  try simp only [ea2] at *
  omega
def f70 : E := (.imp X358 X86)
theorem fact70 (ρ : Env) : E.B ρ f70 = true := by
  unfold f70
  rw [sm_B_imp]
  simp only [sm_B_and]
  rintro ⟨p0, p1, p2, p3⟩
  have hk0 := t140_len p0
  have hz0 : E.I ρ (.fn 0 (.fn 10 (.int 0))) = 0 := rfl
  try simp only [smA, smW] at *
  obtain ⟨a2, ea2, qa2⟩ := cs_i64 ((E.I ρ X21) + (1))
  try simp only [ea2] at *
  omega
def facts : List E := [f0, f1, f2, f3, f4, f5, f6, f7, f8, f9, f10, f11, f12, f13, f14, f15, f16, f17, f18, f19, f20, f21, f22, f23, f24, f25, f26, f27, f28, f29, f30, f31, f32, f33, f34, f35, f36, f37, f38, f39, f40, f41, f42, f43, f44, f45, f46, f47, f48, f49, f50, f51, f52, f53, f54, f55, f56, f57, f58, f59, f60, f61, f62, f63, f64, f65, f66, f67, f68, f69, f70]
theorem facts_ok : ∀ e ∈ facts, ∀ ρ : Env, E.B ρ e = true := (all_cons fact0 (all_cons fact1 (all_cons fact2 (all_cons fact3 (all_cons fact4 (all_cons fact5 (all_cons fact6 (all_cons fact7 (all_cons fact8 (all_cons fact9 (all_cons fact10 (all_cons fact11 (all_cons fact12 (all_cons fact13 (all_cons fact14 (all_cons fact15 (all_cons fact16 (all_cons fact17 (all_cons fact18 (all_cons fact19 (all_cons fact20 (all_cons fact21 (all_cons fact22 (all_cons fact23 (all_cons fact24 (all_cons fact25 (all_cons fact26 (all_cons fact27 (all_cons fact28 (all_cons fact29 (all_cons fact30 (all_cons fact31 (all_cons fact32 (all_cons fact33 (all_cons fact34 (all_cons fact35 (all_cons fact36 (all_cons fact37 (all_cons fact38 (all_cons fact39 (all_cons fact40 (all_cons fact41 (all_cons fact42 (all_cons fact43 (all_cons fact44 (all_cons fact45 (all_cons fact46 (all_cons fact47 (all_cons fact48 (all_cons fact49 (all_cons fact50 (all_cons fact51 (all_cons fact52 (all_cons fact53 (all_cons fact54 (all_cons fact55 (all_cons fact56 (all_cons fact57 (all_cons fact58 (all_cons fact59 (all_cons fact60 (all_cons fact61 (all_cons fact62 (all_cons fact63 (all_cons fact64 (all_cons fact65 (all_cons fact66 (all_cons fact67 (all_cons fact68 (all_cons fact69 (all_cons fact70 all_nil)))))))))))))))))))))))))))))))))))))))))))))))))))))))))))))))))))))))
end l0_3
theorem body0_0_3 : BodyOk Try.prog (annG (some yG)) yG (tG).less (tG).tmps { (tG).st with pc := (what 1) :: .not (emptyL) :: .not (what 2) :: .not (what 0) :: (tG).st.pc } :=
  body_of_check good (facts := l0_3.facts) l0_3.facts_ok (anns := annI 3) (plainAnns_ok _ (by kernel_rfl)) (nats := natl6) natl6_ok (n := 3000) (by kernel_rfl) (by kernel_rfl)
namespace l0_4
def f0 : E := X8
theorem fact0 (ρ : Env) : E.B ρ f0 = true := by
  unfold f0
  rw [sm_B_imp]
  simp only [sm_B_and]
  rintro ⟨p0, p1, p2⟩
  try simp only [smA, smW] at *
  have n2 := @fn0_nn ρ X1
  have n4 := @fn0_nn ρ X5
  omega
def f1 : E := X19
theorem fact1 (ρ : Env) : E.B ρ f1 = true := by
  unfold f1
  rw [sm_B_imp]
  simp only [sm_B_and]
  rintro ⟨p0, p1, p2, p3, p4⟩
  try simp only [smA, smW] at *
  have n2 := @fn0_nn ρ X1
  have n4 := @fn0_nn ρ X5
  omega
def f2 : E := X24
theorem fact2 (ρ : Env) : E.B ρ f2 = true := by
  unfold f2
  rw [sm_B_imp]
  intro p0
  try simp only [smA, smW] at *
  omega
def f3 : E := X50
theorem fact3 (ρ : Env) : E.B ρ f3 = true := by
  unfold f3
  rw [sm_B_imp]
  simp only [sm_B_and]
  rintro ⟨p0, p1, p2⟩
  try simp only [smA, smW] at *
  obtain ⟨a2, ea2, qa2⟩ := cs_i64 ((E.I ρ X21) + (1))
  try simp only [ea2] at *
  omega
def f4 : E := X53
theorem fact4 (ρ : Env) : E.B ρ f4 = true := by
  unfold f4
  rw [sm_B_imp]
  simp only [sm_B_and]
  rintro ⟨p0, p1, p2, p3⟩
  try simp only [smA, smW] at *
  have n4 := @fn0_nn ρ X1
  obtain ⟨a4, ea4, qa4⟩ := cs_i64 ((E.I ρ X0) - (E.I ρ X3))
  try simp only [ea4] at *
  omega
def f5 : E := X242
theorem fact5 (ρ : Env) : E.B ρ f5 = true := by
  unfold f5
  rw [sm_B_imp]
  simp only [sm_B_and]
  rintro ⟨p0, p1, p2, p3⟩
  try simp only [smA, smW] at *
  have n3 := @fn0_nn ρ X1
  have n4 := @fn0_nn ρ X5
  obtain ⟨a4, ea4, qa4⟩ := cs_i64 ((E.I ρ X0) - (E.I ρ X3))
  try simp only [ea4] at *
  obtain ⟨a5, ea5, qa5⟩ := cs_i64 (((E.I ρ X0) - (E.I ρ X3)) - (0))
  try simp only [ea5] at *
  omega
def f6 : E := X34
theorem fact6 (ρ : Env) : E.B ρ f6 = true := by
  unfold f6
  rw [sm_B_imp]
  simp only [sm_B_and]
  rintro ⟨p0, p1, p2, p3, p4⟩
  try simp only [smA, smW] at *
  have n2 := @fn0_nn ρ X1
  have n4 := @fn0_nn ρ X5
  omega
def f7 : E := X71
theorem fact7 (ρ : Env) : E.B ρ f7 = true := by
  unfold f7
  rw [sm_B_imp]
  simp only [sm_B_and]
  rintro ⟨p0, p1, p2, p3, p4, p5, p6⟩
  try simp only [smA, smW] at *
  have n4 := @fn0_nn ρ X1
  have n5 := @fn0_nn ρ X5
  obtain ⟨a5, ea5, qa5⟩ := cs_i64 ((E.I ρ X0) - (E.I ρ X3))
  try simp only [ea5] at *
  obtain ⟨a6, ea6, qa6⟩ := cs_i64 ((E.I ρ X3) + a5)
  try simp only [ea6] at *
  omega
def f8 : E := X79
theorem fact8 (ρ : Env) : E.B ρ f8 = true := by
  unfold f8
  rw [sm_B_imp]
  simp only [sm_B_and]
  rintro ⟨p0, p1, p2, p3, p4, p5⟩
  try simp only [smA, smW] at *
  have n2 := @fn0_nn ρ X1
  have n4 := @fn0_nn ρ X5
  obtain ⟨a4, ea4, qa4⟩ := cs_i64 ((E.I ρ X0) - (E.I ρ X3))
  try simp only [ea4] at *
  obtain ⟨a5, ea5, qa5⟩ := cs_i64 (((E.I ρ X0) - (E.I ρ X3)) - (0))
  try simp only [ea5] at *
  omega
def f9 : E := X82
theorem fact9 (ρ : Env) : E.B ρ f9 = true := by
  unfold f9
  rw [sm_B_imp]
  simp only [sm_B_and]
  rintro ⟨p0, p1, p2, p3, p4, p5⟩
  try simp only [smA, smW] at *
  have n2 := @fn0_nn ρ X1
  have n4 := @fn0_nn ρ X5
  obtain ⟨a4, ea4, qa4⟩ := cs_i64 ((E.I ρ X0) - (E.I ρ X3))
  try simp only [ea4] at *
  obtain ⟨a5, ea5, qa5⟩ := cs_i64 ((E.I ρ X3) + a4)
  try simp only [ea5] at *
  omega
def f10 : E := X244
theorem fact10 (ρ : Env) : E.B ρ f10 = true := by
  unfold f10
  rw [sm_B_imp]
  simp only [sm_B_and]
  rintro ⟨p0, p1, p2⟩
  try simp only [smA, smW] at *
  obtain ⟨a2, ea2, qa2⟩ := cs_i64 ((E.I ρ X21) + (1))
  try simp only [ea2] at *
  omega
def f11 : E := X81
theorem fact11 (ρ : Env) : E.B ρ f11 = true := by
  unfold f11
  rw [sm_B_imp]
  simp only [sm_B_and]
  rintro ⟨p0, p1, p2⟩
  try simp only [smA, smW] at *
  obtain ⟨a2, ea2, qa2⟩ := cs_i64 ((E.I ρ X21) + (1))
  try simp only [ea2] at *
  omega
def f12 : E := X248
theorem fact12 (ρ : Env) : E.B ρ f12 = true := by
  unfold f12
  rw [sm_B_imp]
  simp only [sm_B_and]
  rintro ⟨p0, p1, p2⟩
  try simp only [smA, smW] at *
  obtain ⟨a2, ea2, qa2⟩ := cs_i64 ((E.I ρ X21) + (1))
  try simp only [ea2] at *
  omega
def facts : List E := [f0, f1, f2, f3, f4, f5, f6, f7, f8, f9, f10, f11, f12]
theorem facts_ok : ∀ e ∈ facts, ∀ ρ : Env, E.B ρ e = true := (all_cons fact0 (all_cons fact1 (all_cons fact2 (all_cons fact3 (all_cons fact4 (all_cons fact5 (all_cons fact6 (all_cons fact7 (all_cons fact8 (all_cons fact9 (all_cons fact10 (all_cons fact11 (all_cons fact12 all_nil)))))))))))))
end l0_4
theorem body0_0_4 : BodyOk Try.prog (annG (some yG)) yG (tG).less (tG).tmps { (tG).st with pc := .not (what 1) :: .not (emptyL) :: .not (what 2) :: .not (what 0) :: (tG).st.pc } :=
  body_of_check good (facts := l0_4.facts) l0_4.facts_ok (anns := []) (plainAnns_ok _ (by kernel_rfl)) (nats := natl6) natl6_ok (n := 3000) (by kernel_rfl) (by kernel_rfl)
theorem body0_0 : BodyOk Try.prog (annG (some yG)) yG (tG).less (tG).tmps (tG).st := (BodyOk.cases (what 0) body0_0_0 (BodyOk.cases (what 2) body0_0_1 (BodyOk.cases (emptyL) body0_0_2 (BodyOk.cases (what 1) body0_0_3 body0_0_4))))
end
end Go.Proofs.Ytmcifbikfjmmfaa.drawsHolds

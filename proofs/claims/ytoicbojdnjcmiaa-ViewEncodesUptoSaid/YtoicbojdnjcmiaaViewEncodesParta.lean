/-
  ViewEncodes: contracts of functions, part 1.
-/
import Derived.Test.YtoicbojdnjcmiaaRows
import Derived.Test.YtoicbojdnjcmiaaTheory
import Derived.WalkKit
import Derived.ProofKit
import Derived.OpenShut
import Derived.ChangeOld
import Derived.Below
import Derived.KernelRfl
import Derived.Lib.SmallJoins
namespace Go.Proofs.Ytoicbojdnjcmiaa.viewEncodes
open Go.ChangeShapes Go.WideShapes Go.ChangeAt Go.RowKit
open Go.SX
set_option linter.unusedVariables false
set_option linter.unusedSimpArgs false
set_option maxRecDepth 100000
noncomputable section
abbrev Q0 : E := .var 5
abbrev Q1 : E := .not (.cmp .lss (.int 1000) Q0)
abbrev Q2 : E := .var 0
abbrev Q3 : E := .var 3
abbrev Q4 : E := .var 4
abbrev Q5 : E := .var 1
abbrev Q6 : E := .cmp .lss (.fn 6 (.pr Q5 (.fn 8 (.pr (.int 10) (.int 0))))) Q5
abbrev Q7 : E := .not Q6
abbrev Q8 : E := .imp Q1 Q7
abbrev Q9 : E := .var 8
abbrev Q10 : E := .var 11
abbrev Q11 : E := .var 12
abbrev Q12 : E := .fn 101 (.pr Q9 (.pr Q10 (.pr Q2 (.pr Q3 (.pr (.int 0) (.pr Q4 Q11))))))
abbrev Q13 : E := .cmp .lss (.fn 1 (.pr Q4 Q11)) (.int (-2147483647))
abbrev Q14 : E := .cmp .lss (.fn 1 (.pr Q4 Q11)) (.int 0)
abbrev Q15 : E := .cmp .lss Q11 Q0
abbrev Q16 : E := .not (.cmp .lss Q11 (.int 0))
abbrev Q17 : E := .cmp .eql Q0 (.fn 0 Q4)
abbrev Q18 : E := .fn 118 (.pr (.int 0) Q4)
abbrev Q19 : E := .and Q15 (.and Q16 (.and Q17 Q18))
abbrev Q20 : E := .cmp .lss (.int 2147483647) (.fn 1 (.pr Q4 Q11))
abbrev Q21 : E := .wr .u64 (.fn 1 (.pr Q4 Q11))
abbrev Q22 : E := .cmp .lss Q0 Q11
abbrev Q23 : E := .not Q22
abbrev Q24 : E := .and Q16 Q17
abbrev Q25 : E := .and Q15 Q24
abbrev Q26 : E := .and Q14 Q25
abbrev Q27 : E := .and Q18 Q26
abbrev Q28 : E := .and (.not Q14) Q25
abbrev Q29 : E := .and Q18 Q28
abbrev Q30 : E := .and Q13 Q25
abbrev Q31 : E := .and Q18 Q30
abbrev Q32 : E := .var 9
abbrev Q33 : E := .cmp .lss (.fn 6 (.pr Q5 (.fn 8 (.pr (.int 10) Q11)))) Q32
abbrev Q34 : E := .not Q33
abbrev Q35 : E := .cmp .eql Q32 (.fn 0 Q9)
abbrev Q36 : E := .cmp .eql Q5 (.fn 0 Q2)
abbrev Q37 : E := .and Q17 Q36
abbrev Q38 : E := .cmp .lss (.fn 6 (.pr Q5 (.fn 8 (.pr (.int 10) Q0)))) Q32
abbrev Q39 : E := .not Q38
abbrev Q40 : E := .var 16
abbrev Q41 : E := .var 19
abbrev Q42 : E := .var 20
abbrev Q43 : E := .fn 103 (.pr Q40 (.pr Q41 (.pr Q2 (.pr Q3 (.pr Q4 (.pr Q11 Q42))))))
abbrev Q44 : E := .var 17
abbrev Q45 : E := .cmp .eql Q44 (.fn 0 Q40)
abbrev Q46 : E := .and Q15 (.and Q16 (.and Q17 Q45))
abbrev Q47 : E := .and Q43 Q46
abbrev Q48 : E := .cmp .lss Q44 (.int 0)
abbrev Q49 : E := .not Q48
abbrev Q50 : E := .cmp .lss Q0 (.int 1)
abbrev Q51 : E := .not Q50
abbrev Q52 : E := .not (.cmp .lss Q44 Q5)
abbrev Q53 : E := .cmp .lss (.int 127) Q42
abbrev Q54 : E := .cmp .lss (.int 18446744073709551615) Q42
abbrev Q55 : E := .not Q54
abbrev Q56 : E := .not (.cmp .lss Q42 (.int 0))
abbrev Q57 : E := .ar .add .i64 Q11 (.int 1)
abbrev Q58 : E := .and Q51 Q17
abbrev Q59 : E := .and Q1 Q58
abbrev Q60 : E := .and Q15 (.and Q16 Q59)
abbrev Q61 : E := .and Q43 (.and Q18 Q60)
abbrev Q62 : E := .and Q53 Q55
abbrev Q63 : E := .and Q18 Q62
abbrev Q64 : E := .and Q17 Q63
abbrev Q65 : E := .and Q16 Q64
abbrev Q66 : E := .and Q15 Q65
abbrev Q67 : E := .and Q43 Q66
abbrev Q68 : E := .and Q51 Q37
abbrev Q69 : E := .and Q1 Q68
abbrev Q70 : E := .and Q16 Q69
abbrev Q71 : E := .cmp .lss (.fn 7 (.pr Q0 Q57)) (.fn 7 (.pr Q0 Q11))
abbrev Q72 : E := .cmp .lss (.fn 7 (.pr Q0 Q57)) (.int 0)
abbrev Q73 : E := .not Q72
abbrev Q74 : E := .var 6
abbrev Q75 : E := .pr (.fn 23 (.pr Q4 (.fn 10 (.int 0)))) (.int 1)
abbrev Q76 : E := .pr (.int 0) Q75
abbrev Q77 : E := .pr (.int 0) (.fn 23 (.pr Q4 (.fn 10 (.int 0))))
abbrev Q78 : E := .fn 118 Q77
abbrev Q79 : E := .pr Q32 (.pr Q2 (.pr Q3 (.pr Q4 Q0)))
abbrev Q80 : E := .pr Q74 Q79
abbrev Q81 : E := .fn 102 Q80
abbrev Q82 : E := .pr (.int 3) (.pr Q4 Q11)
abbrev Q83 : E := .pr Q3 Q82
abbrev Q84 : E := .pr Q2 Q83
abbrev Q85 : E := .pr Q10 Q84
abbrev Q86 : E := .pr Q9 Q85
abbrev Q87 : E := .fn 101 Q86
abbrev Q88 : E := .cmp .lss Q5 (.int 1)
abbrev Q89 : E := .not Q88
abbrev Q90 : E := .and Q87 Q59
abbrev Q91 : E := .and Q16 Q90
abbrev Q92 : E := .pr Q3 (.pr (.int 3) (.pr Q4 Q57))
abbrev Q93 : E := .pr Q2 Q92
abbrev Q94 : E := .pr Q40 Q93
abbrev Q95 : E := .pr (.var 13) Q94
abbrev Q96 : E := .fn 101 Q95
abbrev Q97 : E := .var 14
abbrev Q98 : E := .cmp .lss (.fn 6 (.pr Q32 (.fn 8 (.pr (.int 10) (.int 1))))) Q97
abbrev Q99 : E := .not Q98
abbrev Q100 : E := .cmp .eql Q97 (.fn 0 (.var 13))
abbrev Q101 : E := .not (.cmp .lss (.int 1000) (.fn 9 (.pr Q4 (.int 12))))
abbrev Q102 : E := .cmp .lss (.fn 6 (.pr Q5 (.fn 8 (.pr (.int 10) (.int 1))))) Q74
abbrev Q103 : E := .not Q102
abbrev Q104 : E := .and (.cmp .eql Q74 (.fn 0 Q0)) Q36
abbrev Q105 : E := .and (.not (.cmp .lss Q74 Q5)) Q104
abbrev Q106 : E := .and Q103 Q105
abbrev Q107 : E := .imp Q45 Q49
abbrev Q108 : E := .cmp .lss Q42 (.fn 9 (.pr Q4 (.int 12)))
abbrev Q109 : E := .cmp .lss (.fn 9 (.pr Q4 (.int 12))) Q42
abbrev Q110 : E := .not Q109
abbrev Q111 : E := .pr Q3 (.pr (.int 1) (.pr Q4 Q42))
abbrev Q112 : E := .pr Q2 Q111
abbrev Q113 : E := .pr Q41 Q112
abbrev Q114 : E := .pr Q40 Q113
abbrev Q115 : E := .fn 101 Q114
abbrev Q116 : E := .cmp .lss (.fn 6 (.pr Q5 (.fn 8 (.pr (.int 10) (.fn 6 (.pr (.int 1) (.fn 8 (.pr (.int 12) Q42)))))))) Q44
abbrev Q117 : E := .not Q116
abbrev Q118 : E := .cmp .lss (.int 500000) Q5
abbrev Q119 : E := .not Q118
abbrev Q120 : E := .and Q119 Q36
abbrev Q121 : E := .and Q89 Q120
abbrev Q122 : E := .var 22
abbrev Q123 : E := .var 21
abbrev Q124 : E := .cmp .eql Q122 (.fn 0 Q123)
abbrev Q125 : E := .cmp .lss (.fn 6 (.pr Q44 (.fn 8 (.pr (.int 10) (.int 9))))) Q122
abbrev Q126 : E := .not Q125
abbrev Q127 : E := .cmp .lss Q122 Q44
abbrev Q128 : E := .not Q127
abbrev Q129 : E := .and Q128 Q124
abbrev Q130 : E := .and Q126 Q129
abbrev Q131 : E := .and Q108 Q130
abbrev Q132 : E := .and Q36 Q131
abbrev Q133 : E := .and Q119 Q132
abbrev Q134 : E := .and Q89 Q133
abbrev Q135 : E := .and Q101 Q134
abbrev Q136 : E := .and Q56 Q135
abbrev Q137 : E := .and Q45 Q136
abbrev Q138 : E := .and Q52 Q137
abbrev Q139 : E := .and Q117 Q138
abbrev Q140 : E := .ar .add .i64 Q42 (.int 1)
abbrev Q141 : E := .var 26
abbrev Q142 : E := .cmp .lss (.fn 6 (.pr Q122 (.fn 8 (.pr (.int 10) (.int 3))))) Q141
abbrev Q143 : E := .not Q142
abbrev Q144 : E := .cmp .lss Q141 Q122
abbrev Q145 : E := .not Q144
abbrev Q146 : E := .cmp .eql Q141 (.fn 0 (.var 25))
abbrev Q147 : E := .and Q45 (.and Q56 (.and Q101 Q36))
abbrev Q148 : E := .not (.cmp .lss (.int 1000) (.fn 9 (.pr Q4 (.int 5))))
abbrev Q149 : E := .cmp .lss (.fn 9 (.pr Q4 (.int 5))) Q42
abbrev Q150 : E := .not Q149
abbrev Q151 : E := .pr Q3 (.pr (.int 2) (.pr Q4 Q42))
abbrev Q152 : E := .pr Q2 Q151
abbrev Q153 : E := .pr Q41 Q152
abbrev Q154 : E := .pr Q40 Q153
abbrev Q155 : E := .fn 101 Q154
abbrev Q156 : E := .cmp .lss Q42 (.fn 9 (.pr Q4 (.int 5)))
abbrev Q157 : E := .not (.cmp .lss (.fn 6 (.pr Q5 (.fn 8 (.pr (.int 10) (.fn 6 (.pr (.int 1) (.fn 6 (.pr (.fn 8 (.pr (.int 5) Q42)) (.fn 8 (.pr (.int 2) (.fn 114 (.pr Q4 Q42)))))))))))) Q44)
abbrev Q158 : E := .not (.cmp .lss (.int 5000) (.fn 114 (.pr Q4 (.fn 9 (.pr Q4 (.int 5))))))
abbrev Q159 : E := .fn 118 (.pr (.int 2) Q4)
abbrev Q160 : E := .and Q156 (.and Q56 Q159)
abbrev Q161 : E := .cmp .lss (.fn 6 (.pr Q44 (.fn 8 (.pr (.int 10) (.int 4))))) Q122
abbrev Q162 : E := .not Q161
abbrev Q163 : E := .and Q162 Q129
abbrev Q164 : E := .and Q156 Q163
abbrev Q165 : E := .and Q36 Q164
abbrev Q166 : E := .and Q119 Q165
abbrev Q167 : E := .and Q89 Q166
abbrev Q168 : E := .and Q159 Q167
abbrev Q169 : E := .and Q148 Q168
abbrev Q170 : E := .and Q158 Q169
abbrev Q171 : E := .and Q56 Q170
abbrev Q172 : E := .and Q45 Q171
abbrev Q173 : E := .cmp .lss (.fn 6 (.pr Q122 (.fn 8 (.pr (.int 10) (.int 1))))) Q141
abbrev Q174 : E := .not Q173
abbrev Q175 : E := .var 41
abbrev Q176 : E := .var 40
abbrev Q177 : E := .cmp .eql Q175 (.fn 0 Q176)
abbrev Q178 : E := .var 44
abbrev Q179 : E := .cmp .lss Q178 (.fn 9 (.pr (.fn 1 (.pr Q4 (.fn 6 (.pr (.fn 8 (.pr Q42 (.int 5))) (.int 4))))) (.int 2)))
abbrev Q180 : E := .cmp .lss (.fn 9 (.pr (.fn 1 (.pr Q4 (.fn 6 (.pr (.fn 8 (.pr Q42 (.int 5))) (.int 4))))) (.int 2))) Q178
abbrev Q181 : E := .not Q180
abbrev Q182 : E := .pr Q2 (.pr Q3 (.pr Q4 (.pr Q42 Q178)))
abbrev Q183 : E := .pr (.var 43) Q182
abbrev Q184 : E := .pr Q176 Q183
abbrev Q185 : E := .fn 107 Q184
abbrev Q186 : E := .cmp .lss (.fn 6 (.pr Q5 (.fn 8 (.pr (.int 10) (.fn 6 (.pr (.fn 6 (.pr (.int 1) (.fn 6 (.pr (.fn 8 (.pr (.int 5) Q42)) (.fn 8 (.pr (.int 2) (.fn 114 (.pr Q4 Q42)))))))) (.fn 6 (.pr (.int 5) (.fn 8 (.pr (.int 2) Q178)))))))))) Q175
abbrev Q187 : E := .not Q186
abbrev Q188 : E := .and Q159 (.and Q156 (.and Q56 Q148))
abbrev Q189 : E := .cmp .lss Q178 (.int 0)
abbrev Q190 : E := .not Q189
abbrev Q191 : E := .ar .add .i64 Q178 (.int 1)
abbrev Q192 : E := .and Q158 (.and Q159 (.and Q179 (.and Q190 (.and Q156 Q56))))
abbrev Q193 : E := .var 46
abbrev Q194 : E := .cmp .lss (.fn 6 (.pr Q175 (.fn 8 (.pr (.int 10) (.int 2))))) Q193
abbrev Q195 : E := .not Q194
abbrev Q196 : E := .cmp .eql Q193 (.fn 0 (.var 45))
theorem own : ownKnob Try.prog.godebug = none := by kernel_rfl
theorem laidOut : laidOutB Try.prog = true := by kernel_rfl
theorem good : progOk Try.prog = true := by kernel_rfl

theorem one_le {H : Type} (d : DataW H) : 1 ≤ Rows.uptoBulk d := by
  cases d with
  | lit l => cases l <;> simp [Rows.uptoBulk]
  | nil => simp [Rows.uptoBulk]
  | ptr d => simp [Rows.uptoBulk]
  | slice elems spare => simp [Rows.uptoBulk]
  | agg parts => simp [Rows.uptoBulk]
  | iface t d => simp [Rows.uptoBulk]
  | map entries => simp [Rows.uptoBulk]
  | held h => simp [Rows.uptoBulk]
theorem bulkOk {H : Type} : BulkOk (Rows.uptoBulk (H := H)) Rows.uptoBulkAll := ⟨one_le, fun l => by simp [Rows.uptoBulk], fun l m => by simp only [Rows.uptoBulk]; omega, fun d l => by simp [Rows.uptoBulkAll]⟩
theorem ty_view {us : List U} (h : us.length = 43) (t : U.typs us (kindsU 5) [] = true) : (U.typs us (kindsU 5) [] && us.length == 43) = true := by rw [t, h]; rfl
theorem sz_view {us : List U} (h : U.sizes us + 1 ≤ 1048577) : (!(decide ((1048577 : Int) < ((U.size (.lst us) : Nat) : Int)))) = true := by
  have : ¬ ((1048577 : Int) < ((U.size (.lst us) : Nat) : Int)) := by simp only [U.size]; omega
  rw [decide_eq_false this]; rfl

def ii (e : E) : SV := .int .i64 e
def gone : Blk := ⟨true, .gone⟩
def at0 (b : Nat) : SV := .ptr b ⟨0, 0, .int 0⟩
def eEq (a b : E) : E := .cmp .eql a b
def pl (a b : E) : E := .fn 6 (.pr a b)
def mi (a b : E) : E := .fn 7 (.pr a b)
def tm (a b : E) : E := .fn 8 (.pr a b)
def ln (x : E) : E := .fn 0 x
def prs : List E → E
  | [] => .int 0
  | [a] => a
  | a :: l => .pr a (prs l)
def fnE (f : Nat) (l : List E) : E := .fn f (prs l)
def nt (l i : E) : E := .fn 1 (.pr l i)
def kI : List CK := [.int .i64]
def kO : List CK := [.int .i64, .int .i64, .int .i64, .int .i64, .int .i64, .int .i64, .int .i64, .int .i64, .int .i64, .bool, .bool, .bool]
def kT : List CK := [.int .i64, .int .i64]
def kIt : List CK := [.int .i64, .int .i64, .int .i64, .int .i64, .slc kT]
def kA : List CK := [.int .i64, .int .i64, .int .i64]
def fl (x n c : E) : Blk := ⟨true, .flat [.int .i64] x n c 3⟩
def flB (x n c : E) : Blk := ⟨true, .flat [.bool] x n c 4⟩
/-- the writer, its bytes -/
def wr (b : SV) (bad : E) : Blk := ⟨true, .cells [b, .bool bad] (.int 2) 106⟩
def by8 (x n c : E) : Blk := ⟨true, .flat [.int .u8] x n c 5⟩
def big : E := .int 2000000
def pcWk (k : Int) (x n c : E) : List E := [eEq n (ln x), eLe (.int 0) n, eLe n c, eLe n (.int k)]
def pcW (x n c : E) : List E := pcWk 2000000 x n c
def pcX (x n c n0 m : E) : List E := [eEq n (ln x), eLe (.int 1) n, eLe n c, eLe n (pl n0 (tm (.int 10) m))]
def pcY (x n c n0 m : E) : List E := [eEq n (ln x), eLe n0 n, eLe n c, eLe n (pl n0 (tm (.int 10) m))]
def typ (k : Int) (e : E) : E := .fn 118 (.pr (.int k) e)
def tyI (e : E) : E := typ 0 e
def tyV (e : E) : E := .fn 119 e
def f103 (x2 b2 x b l i v : E) : E := fnE 103 [x2, b2, x, b, l, i, v]
def f101 (x' b' x b k l i : E) : E := fnE 101 [x', b', x, b, k, l, i]
def v64 (v : E) : List E := [eLe (.int 0) v, eLe v (.int 18446744073709551615)]
/-- what a call leaves: content a, its length, room, bad -/
def post (b : Nat) (a : Nat) : Blk := wr (.nslice b (eV (a + 1)) (eV (a + 2))) (eV (a + 3))
def byA (a : Nat) : Blk := by8 (eV a) (eV (a + 1)) (eV (a + 2))
/-- put: 0 x, 1 n, 2 c, 3 bad, 4 l, 5 m, 6 room of l -/
def pcP : List E := pcW (eV 0) (eV 1) (eV 2) ++ [tyI (eV 4), eEq (eV 5) (ln (eV 4)), eLe (.int 1) (eV 5), eLe (eV 5) (eV 6), eLe (eV 5) (.int 1000)]
def spP : Pact := ⟨86, [at0 0, .nslice 2 (eV 5) (eV 6)], ⟨7, 3, heapL [post 1 0, byA 0, fl (eV 4) (eV 5) (eV 6)], pcP⟩,
  [(.tup [], ⟨11, 4, heapL [post 3 7, gone, fl (eV 4) (eV 5) (eV 6), byA 7], [f101 (eV 7) (eV 10) (eV 0) (eV 3) (.int 0) (eV 4) (eV 5)] ++ pcY (eV 7) (eV 8) (eV 9) (eV 1) (eV 5)⟩)]⟩
def tP0 : Tmpl := ⟨tmSlots 63 [(0, at0 0), (7, .nslice 2 (eV 5) (eV 6)), (8, ii (eV 5)), (9, ii (eV 12))], ⟨13, 5, heapL [post 4 8, gone, fl (eV 4) (eV 5) (eV 6), gone, byA 8],
  pcP ++ [f101 (eV 8) (eV 11) (eV 0) (eV 3) (.int 0) (eV 4) (eV 12), eLe (.int 0) (eV 12), eLe (eV 12) (eV 5)] ++ pcY (eV 8) (eV 9) (eV 10) (eV 1) (eV 12)⟩, mi (eV 5) (eV 12)⟩
def tP1 : Tmpl := ⟨tmSlots 63 [(0, at0 0), (6, .int .u64 (eV 20)), (7, .nslice 2 (eV 5) (eV 6)), (8, ii (eV 5)), (9, ii (eV 12))], ⟨21, 7, heapL [post 6 16, gone, fl (eV 4) (eV 5) (eV 6), gone, gone, gone, byA 16],
  pcP ++ [eLe (.int 0) (eV 12), eLt (eV 12) (eV 5), f103 (eV 16) (eV 19) (eV 0) (eV 3) (eV 4) (eV 12) (eV 20), eEq (eV 17) (ln (eV 16)), eLe (eV 1) (eV 17), eLe (eV 17) (eV 18)] ++ v64 (eV 20)⟩, eV 20⟩
def annP : List Ann := [⟨86, 0, [tP0], none⟩, ⟨86, 2, [tP1], none⟩]
/-- put of a list that came in: 4 l -/
def nB : E := ln (eV 4)
def pcBs : List E := pcW (eV 0) (eV 1) (eV 2) ++ [eLe (.int 1) (eV 1), tyI (eV 4), eLe nB (.int 1000)]
def spB : Pact := ⟨86, [at0 0, .bsl kI (eV 4)], ⟨5, 2, heapL [post 1 0, byA 0], pcBs⟩,
  [(.tup [], ⟨9, 3, heapL [post 2 5, gone, byA 5], [f101 (eV 5) (eV 8) (eV 0) (eV 3) (.int 0) (eV 4) nB] ++ pcY (eV 5) (eV 6) (eV 7) (eV 1) nB⟩)]⟩
def tB0 : Tmpl := ⟨tmSlots 63 [(0, at0 0), (7, .bsl kI (eV 4)), (8, ii nB), (9, ii (eV 12))], ⟨13, 5, heapL [post 4 8, gone, gone, gone, byA 8],
  pcBs ++ [f101 (eV 8) (eV 11) (eV 0) (eV 3) (.int 0) (eV 4) (eV 12), eLe (.int 0) (eV 12), eLe (eV 12) nB] ++ pcY (eV 8) (eV 9) (eV 10) (eV 1) (eV 12)⟩, mi nB (eV 12)⟩
def tB1 : Tmpl := ⟨tmSlots 63 [(0, at0 0), (6, .int .u64 (eV 20)), (7, .bsl kI (eV 4)), (8, ii nB), (9, ii (eV 12))], ⟨21, 7, heapL [post 6 16, gone, gone, gone, gone, gone, byA 16],
  pcBs ++ [eLe (.int 0) (eV 12), eLt (eV 12) nB, f103 (eV 16) (eV 19) (eV 0) (eV 3) (eV 4) (eV 12) (eV 20), eEq (eV 17) (ln (eV 16)), eLe (eV 1) (eV 17), eLe (eV 17) (eV 18)] ++ v64 (eV 20)⟩, eV 20⟩
def annB : List Ann := [⟨86, 0, [tB0], none⟩, ⟨86, 2, [tB1], none⟩]
/-- the first put: one number; 0 bad, 1 l -/
def emp : E := .fn 10 (.int 0)
def pcF : List E := [tyI (eV 1), eEq (ln (eV 1)) (.int 1)]
def spF : Pact := ⟨86, [at0 0, .nslice 1 (.int 1) (.int 1)], ⟨2, 2, heapL [wr .nils (eV 0), fl (eV 1) (.int 1) (.int 1)], pcF⟩,
  [(.tup [], ⟨6, 3, heapL [post 2 2, fl (eV 1) (.int 1) (.int 1), byA 2], [f101 (eV 2) (eV 5) emp (eV 0) (.int 0) (eV 1) (.int 1), eEq (eV 3) (ln (eV 2)), eLe (.int 1) (eV 3), eLe (eV 3) (eV 4), eLe (eV 3) (.int 10)]⟩)]⟩
def sF (v : E) : Tm := tmSlots 63 [(0, at0 0), (6, .int .u64 v), (7, .nslice 1 (.int 1) (.int 1)), (8, ii (.int 1)), (9, ii (.int 0))]
def tF0 : Tmpl := ⟨sF (eV 25), ⟨26, 2, heapL [wr .nils (eV 24), fl (eV 1) (.int 1) (.int 1)],
  pcF ++ [f103 emp (eV 24) emp (eV 0) (eV 1) (.int 0) (eV 25)] ++ v64 (eV 25)⟩, eV 25⟩
def tF1 : Tmpl := ⟨sF (eV 20), ⟨21, 7, heapL [post 6 16, fl (eV 1) (.int 1) (.int 1), gone, gone, gone, gone, byA 16],
  pcF ++ [f103 (eV 16) (eV 19) emp (eV 0) (eV 1) (.int 0) (eV 20), eEq (eV 17) (ln (eV 16)), eLe (.int 1) (eV 17), eLe (eV 17) (eV 18)] ++ v64 (eV 20)⟩, eV 20⟩
def annF : List Ann := [⟨86, 2, [tF0, tF1], none⟩]
/-- the mana of a seat: 4 to 17 the seat's cells -/
def seatB : Blk := ⟨true, .cells [ii (eV 4), ii (eV 5), ii (eV 6), ii (eV 7), ii (eV 8), ii (eV 9), ii (eV 10), .bsl kO (eV 11), .bsl kO (eV 12), .bool (eV 13), .bool (eV 14), .bool (eV 15), ii (eV 16), ii (eV 17)] (.int 14) 42⟩
def l4 : E := mkList [eV 5, eV 6, eV 7, eV 8]
def a4 : SV := .slice 2 ⟨1, 0, .int 0⟩ (.int 4) (.int 4)
def pcM : List E := pcW (eV 0) (eV 1) (eV 2) ++ [eLe (.int 1) (eV 1), tyI l4]
def spM : Pact := ⟨86, [at0 0, a4], ⟨18, 3, heapL [post 1 0, byA 0, seatB], pcM⟩,
  [(.tup [], ⟨22, 4, heapL [post 3 18, gone, seatB, byA 18], [f101 (eV 18) (eV 21) (eV 0) (eV 3) (.int 0) l4 (.int 4)] ++ pcY (eV 18) (eV 19) (eV 20) (eV 1) (.int 4)⟩)]⟩
def tM0 : Tmpl := ⟨tmSlots 63 [(0, at0 0), (7, a4), (8, ii (.int 4)), (9, ii (eV 28))], ⟨29, 9, heapL [post 8 24, gone, seatB, gone, gone, gone, gone, gone, byA 24],
  pcM ++ [f101 (eV 24) (eV 27) (eV 0) (eV 3) (.int 0) l4 (eV 28), eLe (.int 0) (eV 28), eLe (eV 28) (.int 4)] ++ pcY (eV 24) (eV 25) (eV 26) (eV 1) (eV 28)⟩, mi (.int 4) (eV 28)⟩
def tM1 : Tmpl := ⟨tmSlots 63 [(0, at0 0), (6, .int .u64 (eV 36)), (7, a4), (8, ii (.int 4)), (9, ii (eV 28))], ⟨37, 17, heapL ([post 16 32, gone, seatB] ++ List.replicate 13 gone ++ [byA 32]),
  pcM ++ [eLe (.int 0) (eV 28), eLt (eV 28) (.int 4), f103 (eV 32) (eV 35) (eV 0) (eV 3) l4 (eV 28) (eV 36), eEq (eV 33) (ln (eV 32)), eLe (eV 1) (eV 33), eLe (eV 33) (eV 34)] ++ v64 (eV 36)⟩, eV 36⟩
def annM : List Ann := [⟨86, 0, [tM0], none⟩, ⟨86, 2, [tM1], none⟩]
/-- a size: 4 how many, 5 most -/
def pcZ : List E := pcWk 1000000 (eV 0) (eV 1) (eV 2) ++ [eLe (.int 1) (eV 1), tyI (mkList [eV 4])]
def spZ : Pact := ⟨90, [at0 0, ii (eV 4), ii (eV 5)], ⟨6, 2, heapL [post 1 0, byA 0], pcZ⟩,
  [(.tup [], ⟨10, 3, heapL [post 2 6, gone, byA 6], [fnE 102 [eV 6, eV 9, eV 0, eV 3, eV 4, eV 5]] ++ pcY (eV 6) (eV 7) (eV 8) (eV 1) (.int 1)⟩)]⟩
/-- truth values: as put -/
def pcT : List E := pcWk 1000000 (eV 0) (eV 1) (eV 2) ++ [eLe (.int 1) (eV 1), eEq (eV 5) (ln (eV 4)), eLe (.int 1) (eV 5), eLe (eV 5) (eV 6), eLe (eV 5) (.int 1000)]
def spT : Pact := ⟨88, [at0 0, .nslice 2 (eV 5) (eV 6)], ⟨7, 3, heapL [post 1 0, byA 0, flB (eV 4) (eV 5) (eV 6)], pcT⟩,
  [(.tup [], ⟨11, 4, heapL [post 3 7, gone, flB (eV 4) (eV 5) (eV 6), byA 7], [f101 (eV 7) (eV 10) (eV 0) (eV 3) (.int 3) (eV 4) (eV 5)] ++ pcY (eV 7) (eV 8) (eV 9) (eV 1) (eV 5)⟩)]⟩
def tT : Tmpl := ⟨tmSlots 19 [(0, at0 0), (7, .nslice 2 (eV 5) (eV 6)), (8, ii (eV 5)), (9, ii (eV 12))], ⟨13, 5, heapL [post 4 8, gone, flB (eV 4) (eV 5) (eV 6), gone, byA 8],
  pcT ++ [f101 (eV 8) (eV 11) (eV 0) (eV 3) (.int 3) (eV 4) (eV 12), eLe (.int 0) (eV 12), eLe (eV 12) (eV 5)] ++ pcY (eV 8) (eV 9) (eV 10) (eV 1) (eV 12)⟩, mi (eV 5) (eV 12)⟩
def annT : List Ann := [⟨88, 0, [tT], none⟩]
/-- objects: 4 the list -/
def rows (w : Int) (l : E) : E := .fn 9 (.pr l (.int w))
def pcO : List E := pcWk 500000 (eV 0) (eV 1) (eV 2) ++ [eLe (.int 1) (eV 1), typ 1 (eV 4), eLe (rows 12 (eV 4)) (.int 1000)]
def cO (i : E) : E := pl (.int 1) (tm (.int 12) i)
def spO : Pact := ⟨87, [at0 0, .bsl kO (eV 4)], ⟨5, 2, heapL [post 1 0, byA 0], pcO⟩,
  [(.tup [], ⟨9, 3, heapL [post 2 5, gone, byA 5], [f101 (eV 5) (eV 8) (eV 0) (eV 3) (.int 1) (eV 4) (rows 12 (eV 4))] ++ pcY (eV 5) (eV 6) (eV 7) (eV 1) (cO (rows 12 (eV 4)))⟩)]⟩
def tO : Tmpl := ⟨tmSlots 47 [(0, at0 0), (10, .bsl kO (eV 4)), (11, ii (rows 12 (eV 4))), (12, ii (eV 20))], ⟨21, 9, heapL [post 8 16, gone, gone, gone, gone, gone, gone, gone, byA 16],
  pcO ++ [f101 (eV 16) (eV 19) (eV 0) (eV 3) (.int 1) (eV 4) (eV 20), eLe (.int 0) (eV 20), eLe (eV 20) (rows 12 (eV 4))] ++ pcY (eV 16) (eV 17) (eV 18) (eV 1) (cO (eV 20))⟩, mi (rows 12 (eV 4)) (eV 20)⟩
def annO : List Ann := [⟨87, 0, [tO], none⟩]
/-- items: 4 the list -/
def rI : E := rows 5 (eV 4)
def tg (i : E) : E := .fn 114 (.pr (eV 4) i)
def pcI : List E := pcWk 500000 (eV 0) (eV 1) (eV 2) ++ [eLe (.int 1) (eV 1), typ 2 (eV 4), eLe rI (.int 1000), eLe (tg rI) (.int 5000)]
def cI (i : E) : E := pl (.int 1) (pl (tm (.int 5) i) (tm (.int 2) (tg i)))
def spI : Pact := ⟨89, [at0 0, .bsl kIt (eV 4)], ⟨5, 2, heapL [post 1 0, byA 0], pcI⟩,
  [(.tup [], ⟨9, 3, heapL [post 2 5, gone, byA 5], [f101 (eV 5) (eV 8) (eV 0) (eV 3) (.int 2) (eV 4) rI] ++ pcY (eV 5) (eV 6) (eV 7) (eV 1) (cI rI)⟩)]⟩
def tI0 : Tmpl := ⟨tmSlots 50 [(0, at0 0), (12, .bsl kIt (eV 4)), (13, ii rI), (14, ii (eV 20))], ⟨21, 9, heapL [post 8 16, gone, gone, gone, gone, gone, gone, gone, byA 16],
  pcI ++ [f101 (eV 16) (eV 19) (eV 0) (eV 3) (.int 2) (eV 4) (eV 20), eLe (.int 0) (eV 20), eLe (eV 20) rI] ++ pcY (eV 16) (eV 17) (eV 18) (eV 1) (cI (eV 20))⟩, mi rI (eV 20)⟩
def tgt : E := nt (eV 4) (pl (tm (eV 20) (.int 5)) (.int 4))
def rT : E := rows 2 tgt
def tI1 : Tmpl := ⟨tmSlots 50 [(0, at0 0), (12, .bsl kIt (eV 4)), (13, ii rI), (14, ii (eV 20)), (35, .bsl kT tgt), (36, ii rT), (37, ii (eV 44))], ⟨45, 17, heapL ([post 16 40] ++ List.replicate 15 gone ++ [byA 40]),
  pcI ++ [fnE 107 [eV 40, eV 43, eV 0, eV 3, eV 4, eV 20, eV 44], eLe (.int 0) (eV 20), eLt (eV 20) rI, eLe (.int 0) (eV 44), eLe (eV 44) rT] ++ pcY (eV 40) (eV 41) (eV 42) (eV 1) (pl (cI (eV 20)) (pl (.int 5) (tm (.int 2) (eV 44))))⟩, mi rT (eV 44)⟩
def annI : List Ann := [⟨89, 0, [tI0], none⟩, ⟨89, 2, [tI1], none⟩]
/-- a view: its cells -/
def kSeat : List CK := [.int .i64, .int .i64, .int .i64, .int .i64, .int .i64, .int .i64, .int .i64, .slc kO, .slc kO, .bool, .bool, .bool, .int .i64, .int .i64]
def kV : List CK := .int .i64 :: (kSeat ++ (kSeat ++ [.slc kO, .slc kIt, .slc kIt, .slc kI, .slc kT, .int .i64, .int .i64, .int .i64, .int .i64, .int .i64, .int .i64, .int .i64, .int .i64, .slc kA]))
def cellV (e : E) : CK → SV
  | .int k => .int k e
  | .bool => .bool e
  | .str => .str e
  | .slc ks => .bsl ks e
def cellsV (e : E) : Nat → List CK → List SV
  | _, [] => []
  | j, c :: cs => cellV (nt e (.int (Int.ofNat j))) c :: cellsV e (Nat.succ j) cs
def argX (e : E) : SV := .agg (cellsV e 0 kV)
def boxX (e : E) : Blk := ⟨true, .cells (cellsV e 0 kV) (.int 43) 45⟩
def pcV (e : E) : List E := [tyV e, .fn 112 e]
def cl (e : E) (j : Int) : E := nt e (.int j)
/-- the flat list of objects -/
def pcYs (y n c : E) (m : E) : List E := [eEq n (ln y), eEq n m, eLe n c]
def pcFO : List E := [typ 1 (eV 0), eLe (rows 12 (eV 0)) (.int 1000)]
def spG : Pact := ⟨79, [.bool (eV 0)], ⟨1, 0, .nil, []⟩, [(ii (eV 1), ⟨2, 0, .nil, [eEq (eV 1) (.fn 116 (eV 0))]⟩)]⟩
def spFO : Pact := ⟨78, [.bsl kO (eV 0)], ⟨1, 0, .nil, pcFO⟩, [(.nslice 0 (eV 2) (eV 3), ⟨4, 1, heapL [fl (eV 1) (eV 2) (eV 3)], [fnE 109 [eV 1, .int 1, eV 0, rows 12 (eV 0)]] ++ pcYs (eV 1) (eV 2) (eV 3) (cO (rows 12 (eV 0)))⟩)]⟩
def tFO : Tmpl := ⟨tmSlots 50 [(0, .bsl kO (eV 0)), (3, .nslice 6 (eV 9) (eV 10)), (4, ii (eV 11))], ⟨12, 7, heapL (List.replicate 6 gone ++ [fl (eV 8) (eV 9) (eV 10)]), pcFO ++ [fnE 109 [eV 8, .int 1, eV 0, eV 11], eLe (.int 0) (eV 11), eLe (eV 11) (rows 12 (eV 0))] ++ pcYs (eV 8) (eV 9) (eV 10) (cO (eV 11))⟩, mi (rows 12 (eV 0)) (eV 11)⟩
def annFO : List Ann := [⟨78, 0, [tFO], none⟩]
/-- of items -/
def r0 : E := rows 5 (eV 0)
def tg0 (i : E) : E := .fn 114 (.pr (eV 0) i)
def c0I (i : E) : E := pl (.int 1) (pl (tm (.int 5) i) (tm (.int 2) (tg0 i)))
def pcFI : List E := [typ 2 (eV 0), eLe r0 (.int 1000), eLe (tg0 r0) (.int 5000)]
def spFI : Pact := ⟨80, [.bsl kIt (eV 0)], ⟨1, 0, .nil, pcFI⟩, [(.nslice 0 (eV 2) (eV 3), ⟨4, 1, heapL [fl (eV 1) (eV 2) (eV 3)], [fnE 109 [eV 1, .int 2, eV 0, r0]] ++ pcYs (eV 1) (eV 2) (eV 3) (c0I r0)⟩)]⟩
def tFI0 : Tmpl := ⟨tmSlots 57 [(0, .bsl kIt (eV 0)), (3, .nslice 6 (eV 9) (eV 10)), (4, ii (eV 11))], ⟨12, 7, heapL (List.replicate 6 gone ++ [fl (eV 8) (eV 9) (eV 10)]), pcFI ++ [fnE 109 [eV 8, .int 2, eV 0, eV 11], eLe (.int 0) (eV 11), eLe (eV 11) r0] ++ pcYs (eV 8) (eV 9) (eV 10) (c0I (eV 11))⟩, mi r0 (eV 11)⟩
def tgt0 : E := nt (eV 0) (pl (tm (eV 11) (.int 5)) (.int 4))
def rT0 : E := rows 2 tgt0
def itB : Blk := ⟨true, .cells [ii (nt (eV 0) (pl (tm (eV 11) (.int 5)) (.int 0))), ii (nt (eV 0) (pl (tm (eV 11) (.int 5)) (.int 1))), ii (nt (eV 0) (pl (tm (eV 11) (.int 5)) (.int 2))), ii (nt (eV 0) (pl (tm (eV 11) (.int 5)) (.int 3))), .bsl kT tgt0] (.int 5) 74⟩
def tFI1 : Tmpl := ⟨tmSlots 57 [(0, .bsl kIt (eV 0)), (3, .nslice 20 (eV 25) (eV 26)), (4, ii (eV 11)), (5, at0 7), (6, ii (eV 27))], ⟨28, 21, heapL (List.replicate 7 gone ++ [itB] ++ List.replicate 12 gone ++ [fl (eV 24) (eV 25) (eV 26)]), pcFI ++ [fnE 113 [eV 24, eV 0, eV 11, eV 27], eLe (.int 0) (eV 11), eLt (eV 11) r0, eLe (.int 0) (eV 27), eLe (eV 27) rT0] ++ pcYs (eV 24) (eV 25) (eV 26) (pl (c0I (eV 11)) (pl (.int 5) (tm (.int 2) (eV 27))))⟩, mi rT0 (eV 27)⟩
def annFI : List Ann := [⟨80, 0, [tFI0], none⟩, ⟨80, 2, [tFI1], none⟩]
/-- of numbers -/
def spFN : Pact := ⟨81, [.bsl kI (eV 0)], ⟨1, 0, .nil, [tyI (eV 0), eLe (ln (eV 0)) (.int 1000)]⟩, [(.nslice 0 (eV 2) (eV 3), ⟨4, 1, heapL [fl (eV 1) (eV 2) (eV 3)], [fnE 109 [eV 1, .int 4, eV 0, ln (eV 0)]] ++ pcYs (eV 1) (eV 2) (eV 3) (pl (.int 1) (ln (eV 0)))⟩)]⟩
/-- of a view: 0 the view -/
def spFl : Pact := ⟨45, [argX (eV 0)], ⟨1, 0, .nil, pcV (eV 0)⟩, [(.nslice 0 (eV 2) (eV 3), ⟨4, 1, heapL [fl (eV 1) (eV 2) (eV 3)], [fnE 106 [eV 1, eV 0], eEq (eV 2) (ln (eV 1)), eLe (.int 1) (eV 2), eLe (eV 2) (eV 3), eLe (eV 2) (.int 10000)]⟩)]⟩
def tFl (j w t most : Int) (s : Nat) : Tmpl := ⟨tmSlots 162 [(1, at0 0), (3, .nslice 64 (eV 65) (eV 66)), (s, ii (eV 67))], ⟨68, 65, heapL ([boxX (eV 0)] ++ List.replicate 63 gone ++ [fl (eV 64) (eV 65) (eV 66)]),
  pcV (eV 0) ++ [fnE 110 [eV 64, eV 0, .int j, eV 67], eLe (.int 0) (eV 67), eLe (eV 67) (rows w (cl (eV 0) j)), eEq (eV 65) (ln (eV 64)), eLe (.int 1) (eV 65), eLe (eV 65) (eV 66), eLe (eV 65) (pl (.int most) (tm (.int w) (eV 67)))]⟩, mi (rows w (cl (eV 0) j)) (eV 67)⟩
def tFlA : Tmpl := ⟨tmSlots 162 [(1, at0 0), (3, .nslice 96 (eV 97) (eV 98)), (7, ii (eV 99))], ⟨100, 97, heapL ([boxX (eV 0)] ++ List.replicate 95 gone ++ [fl (eV 96) (eV 97) (eV 98)]),
  pcV (eV 0) ++ [fnE 110 [eV 96, eV 0, .int 42, eV 99], eLe (.int 0) (eV 99), eLe (eV 99) (rows 3 (cl (eV 0) 42)), eEq (eV 97) (ln (eV 96)), eLe (.int 1) (eV 97), eLe (eV 97) (eV 98), eLe (eV 97) (pl (.int 8000) (tm (.int 3) (eV 99)))]⟩, mi (rows 3 (cl (eV 0) 42)) (eV 99)⟩
def annFl : List Ann := [⟨45, 2, [tFl 33 2 0 7000 6], none⟩, ⟨45, 4, [tFlA], none⟩]
/-- the writer's view -/
def wB (n : Nat) : Blk := post n n
def spV : Pact := ⟨52, [at0 0, argX (eV 0)], ⟨1, 1, heapL [wr .nils (.bool false)], pcV (eV 0)⟩,
  [(.tup [], ⟨5, 2, heapL [post 1 1, byA 1], [fnE 104 [eV 1, eV 4, eV 0, .int 43], eEq (eV 2) (ln (eV 1)), eLe (.int 1) (eV 2), eLe (eV 2) (eV 3), eLe (eV 2) (.int 100000)]⟩)]⟩
def tV (b j w most : Nat) (ks : List CK) (s : Nat) : Tmpl := ⟨tmSlots 143 [(0, at0 0), (3, at0 1), (s, .bsl ks (cl (eV 0) j)), (s + 1, ii (rows w (cl (eV 0) j))), (s + 2, ii (eV (b + 4)))], ⟨b + 5, b + 1, heapL ([post b b, boxX (eV 0)] ++ List.replicate (b - 2) gone ++ [byA b]),
  pcV (eV 0) ++ [fnE 108 [eV b, eV (b + 3), eV 0, .int j, eV (b + 4)], eLe (.int 0) (eV (b + 4)), eLe (eV (b + 4)) (rows w (cl (eV 0) j)), eEq (eV (b + 1)) (ln (eV b)), eLe (.int 1) (eV (b + 1)), eLe (eV (b + 1)) (eV (b + 2)), eLe (eV (b + 1)) (pl (.int most) (tm (.int (10 * w)) (eV (b + 4))))]⟩, mi (rows w (cl (eV 0) j)) (eV (b + 4))⟩
def annV : List Ann := [⟨52, 2, [tV 256 33 2 60000 kT 88], none⟩, ⟨52, 4, [tV 320 42 3 70000 kA 127], none⟩]
/-- two views are equal -/
def spS : Pact := ⟨16, [argX (eV 0), argX (eV 1)], ⟨2, 0, .nil, pcV (eV 0) ++ pcV (eV 1)⟩, [(.bool (eV 2), ⟨3, 0, .nil, [.iff (eV 2) (fnE 105 [eV 0, eV 1])]⟩)]⟩
def tS : Tmpl := ⟨tmSlots 32 [(5, .nslice 16 (eV 17) (eV 18)), (6, .nslice 17 (eV 20) (eV 21)), (7, ii (eV 22))], ⟨23, 18, heapL (List.replicate 16 gone ++ [fl (eV 16) (eV 17) (eV 18), fl (eV 19) (eV 20) (eV 21)]),
  pcV (eV 0) ++ pcV (eV 1) ++ [fnE 106 [eV 16, eV 0], fnE 106 [eV 19, eV 1], fnE 111 [eV 16, eV 19, eV 22], eEq (eV 17) (ln (eV 16)), eEq (eV 20) (ln (eV 19)), eEq (eV 17) (eV 20), eLe (eV 17) (.int 10000), eLe (eV 17) (eV 18), eLe (eV 20) (eV 21), eLe (.int 0) (eV 22), eLe (eV 22) (eV 17)]⟩, mi (eV 17) (eV 22)⟩
def annS : List Ann := [⟨16, 0, [tS], none⟩]
def spE : Pact := ⟨31, [argX (eV 0), argX (eV 1)], ⟨2, 0, .nil, pcV (eV 0) ++ pcV (eV 1)⟩, [(.bool (eV 2), ⟨3, 0, .nil, [.iff (eV 2) (fnE 105 [eV 0, eV 1])]⟩)]⟩
/-- how many targets -/
def sz (e : E) : List E := [eLe (.fn 117 e) (.int 1048577)]
def pcTg : List E := typ 2 (eV 0) :: sz (eV 0)
def spTg : Pact := ⟨32, [.bsl kIt (eV 0)], ⟨1, 0, .nil, pcTg⟩, [(ii (eV 1), ⟨2, 0, .nil, [eEq (eV 1) (tg0 r0)]⟩)]⟩
def tTg : Tmpl := ⟨tmSlots 20 [(0, .bsl kIt (eV 0)), (3, ii (eV 8)), (4, ii (eV 9))], ⟨10, 0, .nil, pcTg ++ [eEq (eV 8) (tg0 (eV 9)), eLe (.int 0) (eV 9), eLe (eV 9) r0]⟩, mi r0 (eV 9)⟩
def annTg : List Ann := [⟨32, 0, [tTg], none⟩]
/-- light views -/
def pcL (e : E) : List E := tyV e :: sz e
def spL : Pact := ⟨23, [argX (eV 0)], ⟨1, 0, .nil, pcL (eV 0)⟩, [(.bool (eV 1), ⟨2, 0, .nil, [.iff (eV 1) (.fn 112 (eV 0))]⟩)]⟩
def pc0 : List E := [tyV (eV 0), eLe (.fn 117 (eV 0)) (.int 1048577), tyV (eV 1), eLe (.fn 117 (eV 1)) (.int 1048577)]
def args : List SV := [argX (eV 0), argX (eV 1)]
/-- the bytes of a number -/
def f1 (k : Nat) (e : E) : E := .fn k e
def bN (a : Nat) : List E := [eEq (eV (a + 1)) (ln (eV a)), eLe (.int 1) (eV (a + 1)), eLe (eV (a + 1)) (eV (a + 2))]
def pcNum : List E := [eLe (.int (-2147483647)) (eV 0), eLe (eV 0) (.int 2147483647)]
def spNum : Pact := ⟨54, [ii (eV 0)], ⟨1, 0, .nil, pcNum⟩, [(.nslice 0 (eV 2) (eV 3), ⟨4, 1, heapL [byA 1], [fnE 120 [eV 1, eV 0]] ++ bN 1 ++ [eLe (eV 2) (.int 10)]⟩)]⟩
def tNum0 : Tmpl := ⟨tmSlots 30 [(3, .int .u64 (eV 8)), (4, .nils)], ⟨9, 0, .nil, pcNum ++ [fnE 121 [emp, eV 0, eV 8]] ++ v64 (eV 8)⟩, eV 8⟩
def tNum1 : Tmpl := ⟨tmSlots 30 [(3, .int .u64 (eV 12)), (4, .nslice 3 (eV 10) (eV 11))], ⟨13, 4, heapL [gone, gone, gone, byA 9], pcNum ++ [fnE 121 [eV 9, eV 0, eV 12]] ++ bN 9 ++ v64 (eV 12)⟩, eV 12⟩
def annNum : List Ann := [⟨54, 0, [tNum0, tNum1], none⟩]
/-- the bytes of a view -/
def pcBy : List E := pcV (eV 0) ++ [f1 122 (eV 0)]
def spBy : Pact := ⟨26, [argX (eV 0)], ⟨1, 0, .nil, pcBy⟩, [(.nslice 0 (eV 2) (eV 3), ⟨4, 1, heapL [byA 1], [fnE 123 [eV 1, eV 0]] ++ bN 1 ++ [eLe (eV 2) (.int 100000)]⟩)]⟩
def pcZ2 (z : Nat) : List E := [fnE 106 [eV z, eV 0], eEq (eV (z + 1)) (ln (eV z)), eLe (.int 1) (eV (z + 1)), eLe (eV (z + 1)) (eV (z + 2)), eLe (eV (z + 1)) (.int 10000)]
def tBy0 : Tmpl := ⟨tmSlots 22 [(3, .nils), (4, .nslice 8 (eV 17) (eV 18)), (5, ii (.int 0))], ⟨19, 9, heapL (List.replicate 8 gone ++ [fl (eV 16) (eV 17) (eV 18)]), pcBy ++ pcZ2 16⟩, eV 17⟩
def tBy1 : Tmpl := ⟨tmSlots 22 [(3, .nslice 9 (eV 20) (eV 21)), (4, .nslice 8 (eV 17) (eV 18)), (5, ii (eV 22))], ⟨23, 10, heapL (List.replicate 8 gone ++ [fl (eV 16) (eV 17) (eV 18), byA 19]), pcBy ++ pcZ2 16 ++ [fnE 124 [eV 19, eV 16, eV 22], eLe (.int 1) (eV 22), eLe (eV 22) (eV 17)] ++ bN 19 ++ [eLe (eV 20) (tm (.int 10) (eV 22))]⟩, mi (eV 17) (eV 22)⟩
def annBy : List Ann := [⟨26, 0, [tBy0, tBy1], none⟩]
/-- the lists are not too long -/
def spSh : Pact := ⟨53, [argX (eV 0)], ⟨1, 0, .nil, pcL (eV 0)⟩, [(.bool (eV 1), ⟨2, 0, .nil, [.iff (eV 1) (f1 125 (eV 0))]⟩)]⟩
def lens : List (Int × Int) := [(8, 12), (9, 12), (22, 12), (23, 12), (29, 12), (30, 5), (31, 5), (33, 2)]
def pcSh : List E := pcL (eV 0) ++ lens.map (fun p => eLe (rows p.2 (cl (eV 0) p.1)) (.int 1000)) ++ [eLe (ln (cl (eV 0) 32)) (.int 1000), eLe (rows 3 (cl (eV 0) 42)) (.int 20)]
def tSh0 : Tmpl := ⟨tmSlots 79 [(1, at0 0), (5, ii (eV 8))], ⟨9, 1, heapL [boxX (eV 0)], pcSh ++ [fnE 126 [cl (eV 0) 30, eV 8], eLe (.int 0) (eV 8), eLe (eV 8) (rows 5 (cl (eV 0) 30))]⟩, mi (rows 5 (cl (eV 0) 30)) (eV 8)⟩
def tSh1 : Tmpl := ⟨tmSlots 79 [(1, at0 0), (6, ii (eV 16))], ⟨17, 1, heapL [boxX (eV 0)], pcSh ++ [fnE 126 [cl (eV 0) 30, rows 5 (cl (eV 0) 30)], fnE 126 [cl (eV 0) 31, eV 16], eLe (.int 0) (eV 16), eLe (eV 16) (rows 5 (cl (eV 0) 31))]⟩, mi (rows 5 (cl (eV 0) 31)) (eV 16)⟩
def annSh : List Ann := [⟨53, 2, [tSh0], none⟩, ⟨53, 4, [tSh1], none⟩]
/-- valid views -/
def pcVa : List E := pcV (eV 0) ++ sz (eV 0)
def spVa : Pact := ⟨25, [argX (eV 0)], ⟨1, 0, .nil, pcVa⟩, [(.bool (eV 1), ⟨2, 0, .nil, [.iff (eV 1) (f1 127 (eV 0))]⟩)]⟩
def player : E := .not (.and (.not (eEq (cl (eV 0) 0) (.int 0))) (.not (eEq (cl (eV 0) 0) (.int 1))))
def tVa : Tmpl := ⟨tmSlots 42 [(1, at0 0), (3, .nslice 16 (eV 17) (eV 18)), (4, ii (eV 19))], ⟨20, 17, heapL ([boxX (eV 0)] ++ List.replicate 15 gone ++ [fl (eV 16) (eV 17) (eV 18)]), pcVa ++ pcZ2 16 ++ [player, f1 125 (eV 0), fnE 128 [eV 16, eV 19], eLe (.int 0) (eV 19), eLe (eV 19) (eV 17)]⟩, mi (eV 17) (eV 19)⟩
def annVa : List Ann := [⟨25, 0, [tVa], none⟩]
/-- what Encode returns -/
def spEn : Pact := ⟨24, [argX (eV 0)], ⟨1, 0, .nil, pcV (eV 0)⟩,
  [(.tup [.nslice 0 (eV 2) (eV 3), ii (.int 0)], ⟨4, 1, heapL [byA 1], [f1 127 (eV 0), fnE 123 [eV 1, eV 0]] ++ bN 1 ++ [eLe (eV 2) (.int 65535)]⟩),
   (.tup [.nils, ii (.int 2)], ⟨1, 0, .nil, [.not (f1 127 (eV 0))]⟩)]⟩
def pcE0 : List E := [tyV (eV 0), eLe (.fn 117 (eV 0)) (.int 1048577)]
def argsE : List SV := [argX (eV 0)]

def natl0 : List Nat1 := []
theorem natl0_ok : ∀ x ∈ natl0, NatOk Try.prog x := (fun x hx => by cases hx)

set_option maxRecDepth 100000 in
theorem reckoned0 : withTab Try.prog (fun tb => checkAll outTrue (run Try.prog (tb.plus [] [] natl0) 3000 (.call 11 []) .nil (varSt 0 []) SX.one)) = true := by kernel_rfl
def natl1 : List Nat1 := closedNat 11 :: natl0
theorem natl1_ok : ∀ x ∈ natl1, NatOk Try.prog x := by
  intro x hx
  rcases List.mem_cons.1 hx with rfl | hx
  · exact closed_of_check good (facts := []) all_nil (anns := []) (plainAnns_ok [] rfl) (nats := natl0) natl0_ok reckoned0
  · exact natl0_ok x hx

namespace p0
def f0 : E := (.imp Q1 (.fn 101 (.pr Q2 (.pr Q3 (.pr Q2 (.pr Q3 (.pr (.int 0) (.pr Q4 (.int 0)))))))))
theorem fact0 (ρ : Env) : E.B ρ f0 = true := by
  unfold f0
  rw [sm_B_imp]
  intro p0
  exact t101_zero (Int.le_refl 0)
def f1 : E := Q8
theorem fact1 (ρ : Env) : E.B ρ f1 = true := by
  unfold f1
  rw [sm_B_imp]
  intro p0
  try simp only [smZ] at *
  omega
def f2 : E := (.imp (.and Q12 (.and (.not Q10) (.and (.not Q13) (.and Q14 Q19)))) (.fn 103 (.pr Q9 (.pr Q20 (.pr Q2 (.pr Q3 (.pr Q4 (.pr Q11 (.ar .xor .u64 (.int 18446744073709551615) (.ar .shl .u64 Q21 (.int 1)))))))))))
theorem fact2 (ρ : Env) : E.B ρ f2 = true := by
  unfold f2
  rw [sm_B_imp]
  simp only [sm_B_and]
  rintro ⟨p0, p1, p2, p3, p4, p5, p6, p7⟩
  have hn := in64_nth (i := Q11) p7 (by simp only [smZ] at * <;> omega) (by simp only [smZ] at * <;> omega)
  have hg := nums_nth (i := Q11) p7 (by simp only [smZ] at * <;> omega) (by simp only [smZ] at * <;> omega)
  have hz := zig_neg hn (by simp only [smZ] at * <;> omega)
  exact t103_start p0 (by simp only [smZ] at * <;> omega) (by simp only [smZ] at * <;> omega) hg hz (hb_hi (by have q := p1; rwa [sm_B_not] at q) (by simp only [smZ] at * <;> omega))
def f3 : E := (.imp (.and Q12 (.and (.not Q10) (.and (.not Q13) (.and (.not Q14) Q19)))) (.fn 103 (.pr Q9 (.pr Q20 (.pr Q2 (.pr Q3 (.pr Q4 (.pr Q11 (.ar .shl .u64 Q21 (.int 1))))))))))
theorem fact3 (ρ : Env) : E.B ρ f3 = true := by
  unfold f3
  rw [sm_B_imp]
  simp only [sm_B_and]
  rintro ⟨p0, p1, p2, p3, p4, p5, p6, p7⟩
  have hn := in64_nth (i := Q11) p7 (by simp only [smZ] at * <;> omega) (by simp only [smZ] at * <;> omega)
  have hg := nums_nth (i := Q11) p7 (by simp only [smZ] at * <;> omega) (by simp only [smZ] at * <;> omega)
  have hz := zig_nn hn (by simp only [smZ] at * <;> omega)
  exact t103_start p0 (by simp only [smZ] at * <;> omega) (by simp only [smZ] at * <;> omega) hg hz (hb_hi (by have q := p1; rwa [sm_B_not] at q) (by simp only [smZ] at * <;> omega))
def f4 : E := (.imp (.and Q12 (.and Q13 Q19)) (.fn 103 (.pr Q9 (.pr (.bool true) (.pr Q2 (.pr Q3 (.pr Q4 (.pr Q11 (.ar .xor .u64 (.int 18446744073709551615) (.ar .shl .u64 Q21 (.int 1)))))))))))
theorem fact4 (ρ : Env) : E.B ρ f4 = true := by
  unfold f4
  rw [sm_B_imp]
  simp only [sm_B_and]
  rintro ⟨p0, p1, p2, p3, p4, p5⟩
  have hn := in64_nth (i := Q11) p5 (by simp only [smZ] at * <;> omega) (by simp only [smZ] at * <;> omega)
  have hg := nums_nth (i := Q11) p5 (by simp only [smZ] at * <;> omega) (by simp only [smZ] at * <;> omega)
  have hz := zig_neg hn (by simp only [smZ] at * <;> omega)
  exact t103_start p0 (by simp only [smZ] at * <;> omega) (by simp only [smZ] at * <;> omega) hg hz (hb_lo (by simp only [smZ] at * <;> omega))
def f5 : E := (.imp (.and Q12 (.and Q10 (.and Q14 Q19))) (.fn 103 (.pr Q9 (.pr (.bool true) (.pr Q2 (.pr Q3 (.pr Q4 (.pr Q11 (.ar .xor .u64 (.int 18446744073709551615) (.ar .shl .u64 Q21 (.int 1)))))))))))
theorem fact5 (ρ : Env) : E.B ρ f5 = true := by
  unfold f5
  rw [sm_B_imp]
  simp only [sm_B_and]
  rintro ⟨p0, p1, p2, p3, p4, p5, p6⟩
  have hn := in64_nth (i := Q11) p6 (by simp only [smZ] at * <;> omega) (by simp only [smZ] at * <;> omega)
  have hg := nums_nth (i := Q11) p6 (by simp only [smZ] at * <;> omega) (by simp only [smZ] at * <;> omega)
  have hz := zig_neg hn (by simp only [smZ] at * <;> omega)
  exact t103_start p0 (by simp only [smZ] at * <;> omega) (by simp only [smZ] at * <;> omega) hg hz (hb_t p1)
def f6 : E := (.imp (.and Q12 (.and Q10 (.and (.not Q14) Q19))) (.fn 103 (.pr Q9 (.pr (.bool true) (.pr Q2 (.pr Q3 (.pr Q4 (.pr Q11 (.ar .shl .u64 Q21 (.int 1))))))))))
theorem fact6 (ρ : Env) : E.B ρ f6 = true := by
  unfold f6
  rw [sm_B_imp]
  simp only [sm_B_and]
  rintro ⟨p0, p1, p2, p3, p4, p5, p6⟩
  have hn := in64_nth (i := Q11) p6 (by simp only [smZ] at * <;> omega) (by simp only [smZ] at * <;> omega)
  have hg := nums_nth (i := Q11) p6 (by simp only [smZ] at * <;> omega) (by simp only [smZ] at * <;> omega)
  have hz := zig_nn hn (by simp only [smZ] at * <;> omega)
  exact t103_start p0 (by simp only [smZ] at * <;> omega) (by simp only [smZ] at * <;> omega) hg hz (hb_t p1)
def f7 : E := (.imp (.and Q23 (.and Q12 (.not Q15))) (.fn 101 (.pr Q9 (.pr Q10 (.pr Q2 (.pr Q3 (.pr (.int 0) (.pr Q4 Q0))))))))
theorem fact7 (ρ : Env) : E.B ρ f7 = true := by
  unfold f7
  rw [sm_B_imp]
  simp only [sm_B_and]
  rintro ⟨p0, p1, p2⟩
  have g0 : E.I ρ Q0 = E.I ρ Q11 := by
    try simp only [smZ] at *
    omega
  exact t101_eq p1 g0
def f8 : E := (.imp Q27 (.not (.cmp .lss (.ar .xor .u64 (.int 18446744073709551615) (.ar .shl .u64 Q21 (.int 1))) (.int 0))))
theorem fact8 (ρ : Env) : E.B ρ f8 = true := by
  unfold f8
  rw [sm_B_imp]
  simp only [sm_B_and]
  rintro ⟨p0, p1, p2, p3, p4⟩
  have hn := in64_nth (i := Q11) p0 (by simp only [smZ] at * <;> omega) (by simp only [smZ] at * <;> omega)
  have hg := nums_nth (i := Q11) p0 (by simp only [smZ] at * <;> omega) (by simp only [smZ] at * <;> omega)
  have hz := zig_neg hn (by simp only [smZ] at * <;> omega)
  rw [sm_B_not, sm_B_lss]
  exact zig_lo hn hz
def f9 : E := (.imp Q29 (.not (.cmp .lss (.ar .shl .u64 Q21 (.int 1)) (.int 0))))
theorem fact9 (ρ : Env) : E.B ρ f9 = true := by
  unfold f9
  rw [sm_B_imp]
  simp only [sm_B_and]
  rintro ⟨p0, p1, p2, p3, p4⟩
  have hn := in64_nth (i := Q11) p0 (by simp only [smZ] at * <;> omega) (by simp only [smZ] at * <;> omega)
  have hg := nums_nth (i := Q11) p0 (by simp only [smZ] at * <;> omega) (by simp only [smZ] at * <;> omega)
  have hz := zig_nn hn (by simp only [smZ] at * <;> omega)
  rw [sm_B_not, sm_B_lss]
  exact zig_lo hn hz
def f10 : E := (.imp Q31 (.not (.cmp .lss (.ar .xor .u64 (.int 18446744073709551615) (.ar .shl .u64 Q21 (.int 1))) (.int 0))))
theorem fact10 (ρ : Env) : E.B ρ f10 = true := by
  unfold f10
  rw [sm_B_imp]
  simp only [sm_B_and]
  rintro ⟨p0, p1, p2, p3, p4⟩
  have hn := in64_nth (i := Q11) p0 (by simp only [smZ] at * <;> omega) (by simp only [smZ] at * <;> omega)
  have hg := nums_nth (i := Q11) p0 (by simp only [smZ] at * <;> omega) (by simp only [smZ] at * <;> omega)
  have hz := zig_neg hn (by simp only [smZ] at * <;> omega)
  rw [sm_B_not, sm_B_lss]
  exact zig_lo hn hz
def f11 : E := (.imp (.and Q34 (.and Q35 (.and Q23 (.and (.not Q15) Q37)))) Q39)
theorem fact11 (ρ : Env) : E.B ρ f11 = true := by
  unfold f11
  rw [sm_B_imp]
  simp only [sm_B_and]
  rintro ⟨p0, p1, p2, p3, p4, p5⟩
  try simp only [smZ] at *
  omega
def f12 : E := (.imp Q27 (.not (.cmp .lss (.int 18446744073709551615) (.ar .xor .u64 (.int 18446744073709551615) (.ar .shl .u64 Q21 (.int 1))))))
theorem fact12 (ρ : Env) : E.B ρ f12 = true := by
  unfold f12
  rw [sm_B_imp]
  simp only [sm_B_and]
  rintro ⟨p0, p1, p2, p3, p4⟩
  have hn := in64_nth (i := Q11) p0 (by simp only [smZ] at * <;> omega) (by simp only [smZ] at * <;> omega)
  have hg := nums_nth (i := Q11) p0 (by simp only [smZ] at * <;> omega) (by simp only [smZ] at * <;> omega)
  have hz := zig_neg hn (by simp only [smZ] at * <;> omega)
  rw [sm_B_not, sm_B_lss]
  exact zig_hi hn hz
def f13 : E := (.imp Q29 (.not (.cmp .lss (.int 18446744073709551615) (.ar .shl .u64 Q21 (.int 1)))))
theorem fact13 (ρ : Env) : E.B ρ f13 = true := by
  unfold f13
  rw [sm_B_imp]
  simp only [sm_B_and]
  rintro ⟨p0, p1, p2, p3, p4⟩
  have hn := in64_nth (i := Q11) p0 (by simp only [smZ] at * <;> omega) (by simp only [smZ] at * <;> omega)
  have hg := nums_nth (i := Q11) p0 (by simp only [smZ] at * <;> omega) (by simp only [smZ] at * <;> omega)
  have hz := zig_nn hn (by simp only [smZ] at * <;> omega)
  rw [sm_B_not, sm_B_lss]
  exact zig_hi hn hz
def f14 : E := (.imp Q31 (.not (.cmp .lss (.int 18446744073709551615) (.ar .xor .u64 (.int 18446744073709551615) (.ar .shl .u64 Q21 (.int 1))))))
theorem fact14 (ρ : Env) : E.B ρ f14 = true := by
  unfold f14
  rw [sm_B_imp]
  simp only [sm_B_and]
  rintro ⟨p0, p1, p2, p3, p4⟩
  have hn := in64_nth (i := Q11) p0 (by simp only [smZ] at * <;> omega) (by simp only [smZ] at * <;> omega)
  have hg := nums_nth (i := Q11) p0 (by simp only [smZ] at * <;> omega) (by simp only [smZ] at * <;> omega)
  have hz := zig_neg hn (by simp only [smZ] at * <;> omega)
  rw [sm_B_not, sm_B_lss]
  exact zig_hi hn hz
def f15 : E := (.imp Q47 Q49)
theorem fact15 (ρ : Env) : E.B ρ f15 = true := by
  unfold f15
  rw [sm_B_imp]
  simp only [sm_B_and]
  rintro ⟨p0, p1, p2, p3, p4⟩
  try simp only [smZ] at *
  have n3 := @fn0_nn ρ Q4
  have n5 := @fn0_nn ρ Q40
  omega
def f16 : E := (.imp (.and Q43 (.and Q15 (.and Q16 (.and Q17 (.and Q18 (.and (.not (.cmp .lss (.var 18) Q44)) Q45)))))) (.not (.cmp .lss (.var 18) (.int 0))))
theorem fact16 (ρ : Env) : E.B ρ f16 = true := by
  unfold f16
  rw [sm_B_imp]
  simp only [sm_B_and]
  rintro ⟨p0, p1, p2, p3, p4, p5, p6⟩
  have hl0 := t103_len p0 p4 (by simp only [smZ] at * <;> omega) (by simp only [smZ] at * <;> omega)
  try simp only [smZ] at *
  have n3 := @fn0_nn ρ Q4
  have n6 := @fn0_nn ρ Q40
  omega
def f17 : E := (.imp (.and Q43 (.and Q15 (.and Q16 (.and Q1 (.and Q51 (.and Q17 (.and Q18 (.and Q52 (.and Q45 (.and (.not (.cmp .lss (.int 2000000) Q5)) (.and (.not (.cmp .lss Q5 (.int 0))) Q36))))))))))) (.not (.cmp .lss (.int 2147483648) (.fn 6 (.pr Q44 (.int 1))))))
theorem fact17 (ρ : Env) : E.B ρ f17 = true := by
  unfold f17
  rw [sm_B_imp]
  simp only [sm_B_and]
  rintro ⟨p0, p1, p2, p3, p4, p5, p6, p7, p8, p9, p10, p11⟩
  have hl0 := t103_len p0 p6 (by simp only [smZ] at * <;> omega) (by simp only [smZ] at * <;> omega)
  try simp only [smZ] at *
  have n3 := @fn0_nn ρ Q4
  have n6 := @fn0_nn ρ Q40
  have n7 := @fn0_nn ρ Q2
  omega
def f18 : E := (.imp (.and Q53 (.and Q55 (.and Q43 Q19))) (.fn 103 (.pr (.fn 3 (.pr Q40 (.fn 23 (.pr (.ar .or .u8 (.wr .u8 Q42) (.int 128)) (.fn 10 (.int 0)))))) (.pr Q41 (.pr Q2 (.pr Q3 (.pr Q4 (.pr Q11 (.ar .shr .u64 Q42 (.int 7))))))))))
theorem fact18 (ρ : Env) : E.B ρ f18 = true := by
  unfold f18
  rw [sm_B_imp]
  simp only [sm_B_and]
  rintro ⟨p0, p1, p2, p3, p4, p5, p6⟩
  have g0 : (0) ≤ E.I ρ Q42 := by
    try simp only [smZ] at *
    omega
  exact t103_step p2 (by simp only [smZ] at * <;> omega) (I_or g0) I_shr
def f19 : E := (.imp (.and (.not Q53) (.and Q56 (.and Q43 (.and Q15 (.and Q16 (.and Q1 (.and Q51 (.and Q17 Q18)))))))) (.fn 101 (.pr (.fn 3 (.pr Q40 (.fn 23 (.pr (.wr .u8 Q42) (.fn 10 (.int 0)))))) (.pr Q41 (.pr Q2 (.pr Q3 (.pr (.int 0) (.pr Q4 Q57))))))))
theorem fact19 (ρ : Env) : E.B ρ f19 = true := by
  unfold f19
  rw [sm_B_imp]
  simp only [sm_B_and]
  rintro ⟨p0, p1, p2, p3, p4, p5, p6, p7, p8⟩
  obtain ⟨g0, g1, g2⟩ : (0) ≤ E.I ρ Q42 ∧ E.I ρ Q42 < (128) ∧ E.I ρ Q57 = E.I ρ (.fn 6 (.pr Q11 (.int 1))) := by
    try simp only [smZ] at *
    obtain ⟨a4, ea4, qa4⟩ := cs_i64 ((E.I ρ Q11) + (1))
    try simp only [ea4] at *
    omega
  exact t103_end p2 g1 g0 (I_wr8 g0 g1) (by simp only [smZ] at * <;> omega) (by simp only [smZ] at * <;> omega) g2
def f20 : E := (.imp Q47 (.cmp .eql (.fn 6 (.pr Q44 (.int 1))) (.fn 6 (.pr (.fn 0 Q40) (.int 1)))))
theorem fact20 (ρ : Env) : E.B ρ f20 = true := by
  unfold f20
  rw [sm_B_imp]
  simp only [sm_B_and]
  rintro ⟨p0, p1, p2, p3, p4⟩
  try simp only [smZ] at *
  omega
def f21 : E := (.imp Q61 (.not (.cmp .lss Q57 (.int 0))))
theorem fact21 (ρ : Env) : E.B ρ f21 = true := by
  unfold f21
  rw [sm_B_imp]
  simp only [sm_B_and]
  rintro ⟨p0, p1, p2, p3, p4, p5, p6⟩
  try simp only [smZ] at *
  obtain ⟨a3, ea3, qa3⟩ := cs_i64 ((E.I ρ Q11) + (1))
  try simp only [ea3] at *
  omega
def f22 : E := (.imp (.and Q43 (.and Q15 (.and Q16 (.and Q17 Q52)))) (.not (.cmp .lss (.fn 6 (.pr Q44 (.int 1))) Q5)))
theorem fact22 (ρ : Env) : E.B ρ f22 = true := by
  unfold f22
  rw [sm_B_imp]
  simp only [sm_B_and]
  rintro ⟨p0, p1, p2, p3, p4⟩
  try simp only [smZ] at *
  omega
def f23 : E := (.imp Q61 (.not (.cmp .lss Q0 Q57)))
theorem fact23 (ρ : Env) : E.B ρ f23 = true := by
  unfold f23
  rw [sm_B_imp]
  simp only [sm_B_and]
  rintro ⟨p0, p1, p2, p3, p4, p5, p6⟩
  try simp only [smZ] at *
  obtain ⟨a3, ea3, qa3⟩ := cs_i64 ((E.I ρ Q11) + (1))
  try simp only [ea3] at *
  omega
def f24 : E := (.imp Q67 (.not (.cmp .lss (.ar .shr .u64 Q42 (.int 7)) (.int 0))))
theorem fact24 (ρ : Env) : E.B ρ f24 = true := by
  unfold f24
  rw [sm_B_imp]
  simp only [sm_B_and]
  rintro ⟨p0, p1, p2, p3, p4, p5, p6⟩
  try simp only [smZ] at *
  omega
def f25 : E := (.imp Q67 (.not (.cmp .lss (.int 18446744073709551615) (.ar .shr .u64 Q42 (.int 7)))))
theorem fact25 (ρ : Env) : E.B ρ f25 = true := by
  unfold f25
  rw [sm_B_imp]
  simp only [sm_B_and]
  rintro ⟨p0, p1, p2, p3, p4, p5, p6⟩
  try simp only [smZ] at *
  omega
def f26 : E := (.imp Q67 (.cmp .lss (.ar .shr .u64 Q42 (.int 7)) Q42))
theorem fact26 (ρ : Env) : E.B ρ f26 = true := by
  unfold f26
  rw [sm_B_imp]
  simp only [sm_B_and]
  rintro ⟨p0, p1, p2, p3, p4, p5, p6⟩
  try simp only [smZ] at *
  omega
def f27 : E := (.imp (.and Q43 (.and Q18 (.and Q45 (.and Q15 Q70)))) (.not (.cmp .lss (.fn 6 (.pr Q5 (.fn 8 (.pr (.int 10) Q57)))) (.fn 6 (.pr Q44 (.int 1))))))
theorem fact27 (ρ : Env) : E.B ρ f27 = true := by
  unfold f27
  rw [sm_B_imp]
  simp only [sm_B_and]
  rintro ⟨p0, p1, p2, p3, p4, p5, p6, p7, p8⟩
  have hl0 := t103_len p0 p1 (by simp only [smZ] at * <;> omega) (by simp only [smZ] at * <;> omega)
  try simp only [smZ] at *
  have n2 := @fn0_nn ρ Q40
  have n5 := @fn0_nn ρ Q4
  have n7 := @fn0_nn ρ Q2
  obtain ⟨a7, ea7, qa7⟩ := cs_i64 ((E.I ρ Q11) + (1))
  try simp only [ea7] at *
  omega
def f28 : E := (.imp Q61 Q71)
theorem fact28 (ρ : Env) : E.B ρ f28 = true := by
  unfold f28
  rw [sm_B_imp]
  simp only [sm_B_and]
  rintro ⟨p0, p1, p2, p3, p4, p5, p6⟩
  try simp only [smZ] at *
  obtain ⟨a3, ea3, qa3⟩ := cs_i64 ((E.I ρ Q11) + (1))
  try simp only [ea3] at *
  omega
def f29 : E := (.imp Q61 Q73)
theorem fact29 (ρ : Env) : E.B ρ f29 = true := by
  unfold f29
  rw [sm_B_imp]
  simp only [sm_B_and]
  rintro ⟨p0, p1, p2, p3, p4, p5, p6⟩
  try simp only [smZ] at *
  obtain ⟨a3, ea3, qa3⟩ := cs_i64 ((E.I ρ Q11) + (1))
  try simp only [ea3] at *
  omega
def facts : List E := [f0, f1, f2, f3, f4, f5, f6, f7, f8, f9, f10, f11, f12, f13, f14, f15, f16, f17, f18, f19, f20, f21, f22, f23, f24, f25, f26, f27, f28, f29]
theorem facts_ok : ∀ e ∈ facts, ∀ ρ : Env, E.B ρ e = true := (all_cons fact0 (all_cons fact1 (all_cons fact2 (all_cons fact3 (all_cons fact4 (all_cons fact5 (all_cons fact6 (all_cons fact7 (all_cons fact8 (all_cons fact9 (all_cons fact10 (all_cons fact11 (all_cons fact12 (all_cons fact13 (all_cons fact14 (all_cons fact15 (all_cons fact16 (all_cons fact17 (all_cons fact18 (all_cons fact19 (all_cons fact20 (all_cons fact21 (all_cons fact22 (all_cons fact23 (all_cons fact24 (all_cons fact25 (all_cons fact26 (all_cons fact27 (all_cons fact28 (all_cons fact29 all_nil))))))))))))))))))))))))))))))
end p0
set_option maxRecDepth 100000 in
theorem spec0_0 : NatOk Try.prog (specNat (spP)) :=
  spec_of_check good (facts := p0.facts) p0.facts_ok (anns := annP) (plainAnns_ok _ (by kernel_rfl)) (nats := natl1) natl1_ok (n := 3000) (by kernel_rfl)
def natl2 : List Nat1 := specNat (spP) :: natl1
theorem natl2_ok : ∀ x ∈ natl2, NatOk Try.prog x := by
  intro x hx
  rcases List.mem_cons.1 hx with rfl | hx
  · exact spec0_0
  exact natl1_ok x hx

namespace p1
def f0 : E := (.imp (.and (.not Q3) (.and (.fn 101 (.pr Q74 (.pr Q32 (.pr Q2 (.pr (.cmp .lss Q0 Q4) Q76))))) Q78)) Q81)
theorem fact0 (ρ : Env) : E.B ρ f0 = true := by
  unfold f0
  rw [sm_B_imp]
  simp only [sm_B_and]
  rintro ⟨p0, p1, p2⟩
  exact t102_of p1 p2 (hc_no (by have q := p0; rwa [sm_B_not] at q))
def f1 : E := (.imp (.and Q3 (.and (.fn 101 (.pr Q74 (.pr Q32 (.pr Q2 (.pr (.bool true) Q76))))) Q78)) Q81)
theorem fact1 (ρ : Env) : E.B ρ f1 = true := by
  unfold f1
  rw [sm_B_imp]
  simp only [sm_B_and]
  rintro ⟨p0, p1, p2⟩
  exact t102_of p1 p2 (hc_yes p0)
def facts : List E := [f0, f1]
theorem facts_ok : ∀ e ∈ facts, ∀ ρ : Env, E.B ρ e = true := (all_cons fact0 (all_cons fact1 all_nil))
end p1
set_option maxRecDepth 100000 in
theorem spec1_0 : NatOk Try.prog (specNat (spZ)) :=
  spec_of_check good (facts := p1.facts) p1.facts_ok (anns := []) (plainAnns_ok _ (by kernel_rfl)) (nats := natl2) natl2_ok (n := 3000) (by kernel_rfl)
def natl3 : List Nat1 := specNat (spZ) :: natl2
theorem natl3_ok : ∀ x ∈ natl3, NatOk Try.prog x := by
  intro x hx
  rcases List.mem_cons.1 hx with rfl | hx
  · exact spec1_0
  exact natl2_ok x hx

namespace p2
def f0 : E := (.imp Q1 (.fn 101 (.pr Q2 (.pr Q3 (.pr Q2 (.pr Q3 (.pr (.int 3) (.pr Q4 (.int 0)))))))))
theorem fact0 (ρ : Env) : E.B ρ f0 = true := by
  unfold f0
  rw [sm_B_imp]
  intro p0
  exact t101_zero3 (Int.le_refl 0)
def f1 : E := Q8
theorem fact1 (ρ : Env) : E.B ρ f1 = true := by
  unfold f1
  rw [sm_B_imp]
  intro p0
  try simp only [smZ] at *
  omega
def f2 : E := (.imp Q35 (.not (.cmp .lss Q32 (.int 0))))
theorem fact2 (ρ : Env) : E.B ρ f2 = true := by
  unfold f2
  rw [sm_B_imp]
  intro p0
  try simp only [smZ] at *
  have n2 := @fn0_nn ρ Q9
  omega
def f3 : E := (.imp (.and (.not Q15) (.and Q23 Q87)) (.fn 101 (.pr Q9 (.pr Q10 (.pr Q2 (.pr Q3 (.pr (.int 3) (.pr Q4 Q0))))))))
theorem fact3 (ρ : Env) : E.B ρ f3 = true := by
  unfold f3
  rw [sm_B_imp]
  simp only [sm_B_and]
  rintro ⟨p0, p1, p2⟩
  have g0 : E.I ρ Q0 = E.I ρ Q11 := by
    try simp only [smZ] at *
    omega
  exact t101_eq p2 g0
def f4 : E := (.imp (.and Q15 (.and Q34 (.and Q35 (.and Q1 (.and Q51 (.and Q17 (.and Q89 (.and (.not (.cmp .lss (.int 1000000) Q5)) Q36)))))))) (.not (.cmp .lss (.int 2000000) Q32)))
theorem fact4 (ρ : Env) : E.B ρ f4 = true := by
  unfold f4
  rw [sm_B_imp]
  simp only [sm_B_and]
  rintro ⟨p0, p1, p2, p3, p4, p5, p6, p7, p8⟩
  try simp only [smZ] at *
  omega
def f5 : E := (.imp (.and (.not Q15) (.and Q34 (.and Q35 (.and Q23 Q37)))) Q39)
theorem fact5 (ρ : Env) : E.B ρ f5 = true := by
  unfold f5
  rw [sm_B_imp]
  simp only [sm_B_and]
  rintro ⟨p0, p1, p2, p3, p4, p5⟩
  try simp only [smZ] at *
  omega
def f6 : E := (.imp Q15 (.fn 118 (.pr (.int 0) (.fn 23 (.pr (.int 1) (.fn 10 (.int 0)))))))
theorem fact6 (ρ : Env) : E.B ρ f6 = true := by
  unfold f6
  rw [sm_B_imp]
  intro p0
  exact rfl
def f7 : E := (.imp Q15 (.fn 118 (.pr (.int 0) (.fn 23 (.pr (.int 0) (.fn 10 (.int 0)))))))
theorem fact7 (ρ : Env) : E.B ρ f7 = true := by
  unfold f7
  rw [sm_B_imp]
  intro p0
  exact rfl
def f8 : E := (.imp (.and Q15 (.and (.fn 1 (.pr Q4 Q11)) (.and (.fn 101 (.pr (.var 13) (.pr Q40 (.pr Q9 (.pr Q10 (.pr (.int 0) (.pr (.fn 23 (.pr (.int 1) (.fn 10 (.int 0)))) (.int 1)))))))) Q91))) Q96)
theorem fact8 (ρ : Env) : E.B ρ f8 = true := by
  unfold f8
  rw [sm_B_imp]
  simp only [sm_B_and]
  rintro ⟨p0, p1, p2, p3, p4, p5, p6, p7⟩
  have g0 : E.I ρ Q57 = E.I ρ (.fn 6 (.pr Q11 (.int 1))) := by
    try simp only [smZ] at *
    obtain ⟨a3, ea3, qa3⟩ := cs_i64 ((E.I ρ Q11) + (1))
    try simp only [ea3] at *
    omega
  exact t101_flag p4 p2 (flag_yes p1) (by simp only [smZ] at * <;> omega) (by simp only [smZ] at * <;> omega) g0
def f9 : E := (.imp (.and Q15 (.and (.not (.fn 1 (.pr Q4 Q11))) (.and (.fn 101 (.pr (.var 13) (.pr Q40 (.pr Q9 (.pr Q10 (.pr (.int 0) (.pr (.fn 23 (.pr (.int 0) (.fn 10 (.int 0)))) (.int 1)))))))) Q91))) Q96)
theorem fact9 (ρ : Env) : E.B ρ f9 = true := by
  unfold f9
  rw [sm_B_imp]
  simp only [sm_B_and]
  rintro ⟨p0, p1, p2, p3, p4, p5, p6, p7⟩
  have g0 : E.I ρ Q57 = E.I ρ (.fn 6 (.pr Q11 (.int 1))) := by
    try simp only [smZ] at *
    obtain ⟨a3, ea3, qa3⟩ := cs_i64 ((E.I ρ Q11) + (1))
    try simp only [ea3] at *
    omega
  exact t101_flag p4 p2 (flag_no (by have q := p1; rwa [sm_B_not] at q)) (by simp only [smZ] at * <;> omega) (by simp only [smZ] at * <;> omega) g0
def f10 : E := (.imp Q60 (.not (.cmp .lss Q57 (.int 0))))
theorem fact10 (ρ : Env) : E.B ρ f10 = true := by
  unfold f10
  rw [sm_B_imp]
  simp only [sm_B_and]
  rintro ⟨p0, p1, p2, p3, p4⟩
  try simp only [smZ] at *
  obtain ⟨a3, ea3, qa3⟩ := cs_i64 ((E.I ρ Q11) + (1))
  try simp only [ea3] at *
  omega
def f11 : E := (.imp Q60 (.not (.cmp .lss Q0 Q57)))
theorem fact11 (ρ : Env) : E.B ρ f11 = true := by
  unfold f11
  rw [sm_B_imp]
  simp only [sm_B_and]
  rintro ⟨p0, p1, p2, p3, p4⟩
  try simp only [smZ] at *
  obtain ⟨a3, ea3, qa3⟩ := cs_i64 ((E.I ρ Q11) + (1))
  try simp only [ea3] at *
  omega
def f12 : E := (.imp (.and Q15 (.and Q99 (.and (.not (.cmp .lss Q97 Q32)) (.and Q100 (.and Q34 (.and (.not (.cmp .lss Q32 Q5)) (.and Q35 Q69))))))) (.not (.cmp .lss Q97 Q5)))
theorem fact12 (ρ : Env) : E.B ρ f12 = true := by
  unfold f12
  rw [sm_B_imp]
  simp only [sm_B_and]
  rintro ⟨p0, p1, p2, p3, p4, p5, p6, p7, p8, p9, p10⟩
  try simp only [smZ] at *
  omega
def f13 : E := (.imp (.and Q15 (.and Q99 (.and (.not (.cmp .lss Q97 Q32)) (.and Q100 (.and Q34 (.and Q35 Q70)))))) (.not (.cmp .lss (.fn 6 (.pr Q5 (.fn 8 (.pr (.int 10) Q57)))) Q97)))
theorem fact13 (ρ : Env) : E.B ρ f13 = true := by
  unfold f13
  rw [sm_B_imp]
  simp only [sm_B_and]
  rintro ⟨p0, p1, p2, p3, p4, p5, p6, p7, p8, p9, p10⟩
  try simp only [smZ] at *
  obtain ⟨a9, ea9, qa9⟩ := cs_i64 ((E.I ρ Q11) + (1))
  try simp only [ea9] at *
  omega
def f14 : E := (.imp Q60 Q71)
theorem fact14 (ρ : Env) : E.B ρ f14 = true := by
  unfold f14
  rw [sm_B_imp]
  simp only [sm_B_and]
  rintro ⟨p0, p1, p2, p3, p4⟩
  try simp only [smZ] at *
  obtain ⟨a3, ea3, qa3⟩ := cs_i64 ((E.I ρ Q11) + (1))
  try simp only [ea3] at *
  omega
def f15 : E := (.imp Q60 Q73)
theorem fact15 (ρ : Env) : E.B ρ f15 = true := by
  unfold f15
  rw [sm_B_imp]
  simp only [sm_B_and]
  rintro ⟨p0, p1, p2, p3, p4⟩
  try simp only [smZ] at *
  obtain ⟨a3, ea3, qa3⟩ := cs_i64 ((E.I ρ Q11) + (1))
  try simp only [ea3] at *
  omega
def facts : List E := [f0, f1, f2, f3, f4, f5, f6, f7, f8, f9, f10, f11, f12, f13, f14, f15]
theorem facts_ok : ∀ e ∈ facts, ∀ ρ : Env, E.B ρ e = true := (all_cons fact0 (all_cons fact1 (all_cons fact2 (all_cons fact3 (all_cons fact4 (all_cons fact5 (all_cons fact6 (all_cons fact7 (all_cons fact8 (all_cons fact9 (all_cons fact10 (all_cons fact11 (all_cons fact12 (all_cons fact13 (all_cons fact14 (all_cons fact15 all_nil))))))))))))))))
end p2
set_option maxRecDepth 100000 in
theorem spec2_0 : NatOk Try.prog (specNat (spT)) :=
  spec_of_check good (facts := p2.facts) p2.facts_ok (anns := annT) (plainAnns_ok _ (by kernel_rfl)) (nats := natl3) natl3_ok (n := 3000) (by kernel_rfl)
def natl4 : List Nat1 := specNat (spT) :: natl3
theorem natl4_ok : ∀ x ∈ natl4, NatOk Try.prog x := by
  intro x hx
  rcases List.mem_cons.1 hx with rfl | hx
  · exact spec2_0
  exact natl3_ok x hx

namespace p3
def f0 : E := (.imp Q101 (.fn 118 (.pr (.int 0) (.fn 23 (.pr (.fn 9 (.pr Q4 (.int 12))) (.fn 10 (.int 0)))))))
theorem fact0 (ρ : Env) : E.B ρ f0 = true := by
  unfold f0
  rw [sm_B_imp]
  intro p0
  obtain ⟨g0, g1⟩ : (-9223372036854775808) ≤ E.I ρ (.fn 9 (.pr Q4 (.int 12))) ∧ E.I ρ (.fn 9 (.pr Q4 (.int 12))) ≤ (9223372036854775807) := by
    have hr0 := @rows_nn ρ Q4 (12)
    try simp only [smZ] at *
    omega
  exact ty0_I ⟨_, rfl⟩ g0 g1 ty0_nil
def f1 : E := (.imp (.fn 102 (.pr Q0 (.pr Q9 (.pr Q2 (.pr Q3 (.pr (.fn 9 (.pr Q4 (.int 12))) (.int 1000))))))) (.fn 101 (.pr Q0 (.pr Q9 (.pr Q2 (.pr Q3 (.pr (.int 1) (.pr Q4 (.int 0)))))))))
theorem fact1 (ρ : Env) : E.B ρ f1 = true := by
  unfold f1
  rw [sm_B_imp]
  intro p0
  exact t101_head1 p0
def f2 : E := (.imp Q106 (.not (.cmp .lss (.fn 6 (.pr Q5 (.fn 8 (.pr (.int 10) (.fn 6 (.pr (.int 1) (.fn 8 (.pr (.int 12) (.int 0))))))))) Q74)))
theorem fact2 (ρ : Env) : E.B ρ f2 = true := by
  unfold f2
  rw [sm_B_imp]
  simp only [sm_B_and]
  rintro ⟨p0, p1, p2, p3⟩
  try simp only [smZ] at *
  omega
def f3 : E := Q107
theorem fact3 (ρ : Env) : E.B ρ f3 = true := by
  unfold f3
  rw [sm_B_imp]
  intro p0
  try simp only [smZ] at *
  have n2 := @fn0_nn ρ Q40
  omega
def f4 : E := (.imp (.and (.not Q108) (.and Q110 Q115)) (.fn 101 (.pr Q40 (.pr Q41 (.pr Q2 (.pr Q3 (.pr (.int 1) (.pr Q4 (.fn 9 (.pr Q4 (.int 12)))))))))))
theorem fact4 (ρ : Env) : E.B ρ f4 = true := by
  unfold f4
  rw [sm_B_imp]
  simp only [sm_B_and]
  rintro ⟨p0, p1, p2⟩
  have g0 : E.I ρ (.fn 9 (.pr Q4 (.int 12))) = E.I ρ Q42 := by
    try simp only [smZ] at *
    omega
  exact t101_eq p2 g0
def f5 : E := (.imp (.and Q108 (.and Q117 (.and Q52 (.and Q45 (.and Q56 (.and Q101 Q121)))))) (.not (.cmp .lss (.int 2000000) Q44)))
theorem fact5 (ρ : Env) : E.B ρ f5 = true := by
  unfold f5
  rw [sm_B_imp]
  simp only [sm_B_and]
  rintro ⟨p0, p1, p2, p3, p4, p5, p6, p7, p8⟩
  try simp only [smZ] at *
  omega
def f6 : E := (.imp (.and (.not Q108) (.and Q117 (.and Q45 (.and Q110 Q36)))) (.not (.cmp .lss (.fn 6 (.pr Q5 (.fn 8 (.pr (.int 10) (.fn 6 (.pr (.int 1) (.fn 8 (.pr (.int 12) (.fn 9 (.pr Q4 (.int 12))))))))))) Q44)))
theorem fact6 (ρ : Env) : E.B ρ f6 = true := by
  unfold f6
  rw [sm_B_imp]
  simp only [sm_B_and]
  rintro ⟨p0, p1, p2, p3, p4⟩
  try simp only [smZ] at *
  omega
def f7 : E := (.imp (.and Q108 (.and Q56 (.fn 118 (.pr (.int 1) Q4)))) (.fn 118 (.pr (.int 0) (.fn 23 (.pr (.fn 1 (.pr Q4 (.fn 6 (.pr (.fn 8 (.pr Q42 (.int 12))) (.int 0))))) (.fn 23 (.pr (.fn 1 (.pr Q4 (.fn 6 (.pr (.fn 8 (.pr Q42 (.int 12))) (.int 1))))) (.fn 23 (.pr (.fn 1 (.pr Q4 (.fn 6 (.pr (.fn 8 (.pr Q42 (.int 12))) (.int 2))))) (.fn 23 (.pr (.fn 1 (.pr Q4 (.fn 6 (.pr (.fn 8 (.pr Q42 (.int 12))) (.int 3))))) (.fn 23 (.pr (.fn 1 (.pr Q4 (.fn 6 (.pr (.fn 8 (.pr Q42 (.int 12))) (.int 4))))) (.fn 23 (.pr (.fn 1 (.pr Q4 (.fn 6 (.pr (.fn 8 (.pr Q42 (.int 12))) (.int 5))))) (.fn 23 (.pr (.fn 1 (.pr Q4 (.fn 6 (.pr (.fn 8 (.pr Q42 (.int 12))) (.int 6))))) (.fn 23 (.pr (.fn 1 (.pr Q4 (.fn 6 (.pr (.fn 8 (.pr Q42 (.int 12))) (.int 7))))) (.fn 23 (.pr (.fn 1 (.pr Q4 (.fn 6 (.pr (.fn 8 (.pr Q42 (.int 12))) (.int 8))))) (.fn 10 (.int 0)))))))))))))))))))))))
theorem fact7 (ρ : Env) : E.B ρ f7 = true := by
  unfold f7
  rw [sm_B_imp]
  simp only [sm_B_and]
  rintro ⟨p0, p1, p2⟩
  exact t118_obj p2 (by simp only [smZ] at * <;> omega) (by simp only [smZ] at * <;> omega)
def f8 : E := (.imp Q124 (.not (.cmp .lss Q122 (.int 0))))
theorem fact8 (ρ : Env) : E.B ρ f8 = true := by
  unfold f8
  rw [sm_B_imp]
  intro p0
  try simp only [smZ] at *
  have n2 := @fn0_nn ρ Q123
  omega
def f9 : E := (.imp Q139 (.not (.cmp .lss (.int 1000000) Q122)))
theorem fact9 (ρ : Env) : E.B ρ f9 = true := by
  unfold f9
  rw [sm_B_imp]
  simp only [sm_B_and]
  rintro ⟨p0, p1, p2, p3, p4, p5, p6, p7, p8, p9, p10, p11⟩
  try simp only [smZ] at *
  omega
def f10 : E := (.imp Q139 (.not (.cmp .lss Q122 (.int 1))))
theorem fact10 (ρ : Env) : E.B ρ f10 = true := by
  unfold f10
  rw [sm_B_imp]
  simp only [sm_B_and]
  rintro ⟨p0, p1, p2, p3, p4, p5, p6, p7, p8, p9, p10, p11⟩
  try simp only [smZ] at *
  omega
def f11 : E := (.imp (.and Q108 (.and (.fn 101 (.pr Q123 (.pr (.var 24) (.pr Q40 (.pr Q41 (.pr (.int 0) (.pr (.fn 23 (.pr (.fn 1 (.pr Q4 (.fn 6 (.pr (.fn 8 (.pr Q42 (.int 12))) (.int 0))))) (.fn 23 (.pr (.fn 1 (.pr Q4 (.fn 6 (.pr (.fn 8 (.pr Q42 (.int 12))) (.int 1))))) (.fn 23 (.pr (.fn 1 (.pr Q4 (.fn 6 (.pr (.fn 8 (.pr Q42 (.int 12))) (.int 2))))) (.fn 23 (.pr (.fn 1 (.pr Q4 (.fn 6 (.pr (.fn 8 (.pr Q42 (.int 12))) (.int 3))))) (.fn 23 (.pr (.fn 1 (.pr Q4 (.fn 6 (.pr (.fn 8 (.pr Q42 (.int 12))) (.int 4))))) (.fn 23 (.pr (.fn 1 (.pr Q4 (.fn 6 (.pr (.fn 8 (.pr Q42 (.int 12))) (.int 5))))) (.fn 23 (.pr (.fn 1 (.pr Q4 (.fn 6 (.pr (.fn 8 (.pr Q42 (.int 12))) (.int 6))))) (.fn 23 (.pr (.fn 1 (.pr Q4 (.fn 6 (.pr (.fn 8 (.pr Q42 (.int 12))) (.int 7))))) (.fn 23 (.pr (.fn 1 (.pr Q4 (.fn 6 (.pr (.fn 8 (.pr Q42 (.int 12))) (.int 8))))) (.fn 10 (.int 0)))))))))))))))))))) (.int 9)))))))) (.and (.fn 101 (.pr (.var 25) (.pr (.var 28) (.pr Q123 (.pr (.var 24) (.pr (.int 3) (.pr (.fn 23 (.pr (.fn 1 (.pr Q4 (.fn 6 (.pr (.fn 8 (.pr Q42 (.int 12))) (.int 9))))) (.fn 23 (.pr (.fn 1 (.pr Q4 (.fn 6 (.pr (.fn 8 (.pr Q42 (.int 12))) (.int 10))))) (.fn 23 (.pr (.fn 1 (.pr Q4 (.fn 6 (.pr (.fn 8 (.pr Q42 (.int 12))) (.int 11))))) (.fn 10 (.int 0)))))))) (.int 3)))))))) (.and Q56 (.and Q115 (.and Q101 (.fn 118 (.pr (.int 1) Q4)))))))) (.fn 101 (.pr (.var 25) (.pr (.var 28) (.pr Q2 (.pr Q3 (.pr (.int 1) (.pr Q4 Q140))))))))
theorem fact11 (ρ : Env) : E.B ρ f11 = true := by
  unfold f11
  rw [sm_B_imp]
  simp only [sm_B_and]
  rintro ⟨p0, p1, p2, p3, p4, p5, p6⟩
  have g0 : E.I ρ Q140 = E.I ρ (.fn 6 (.pr Q42 (.int 1))) := by
    try simp only [smZ] at *
    obtain ⟨a2, ea2, qa2⟩ := cs_i64 ((E.I ρ Q42) + (1))
    try simp only [ea2] at *
    omega
  exact t101_obj p6 p4 p1 p2 (by simp only [smZ] at * <;> omega) (by simp only [smZ] at * <;> omega) g0
def f12 : E := (.imp (.and Q108 (.and Q56 Q101)) (.not (.cmp .lss Q140 (.int 0))))
theorem fact12 (ρ : Env) : E.B ρ f12 = true := by
  unfold f12
  rw [sm_B_imp]
  simp only [sm_B_and]
  rintro ⟨p0, p1, p2⟩
  try simp only [smZ] at *
  obtain ⟨a2, ea2, qa2⟩ := cs_i64 ((E.I ρ Q42) + (1))
  try simp only [ea2] at *
  omega
def f13 : E := (.imp (.and Q108 Q56) (.not (.cmp .lss (.fn 9 (.pr Q4 (.int 12))) Q140)))
theorem fact13 (ρ : Env) : E.B ρ f13 = true := by
  unfold f13
  rw [sm_B_imp]
  simp only [sm_B_and]
  rintro ⟨p0, p1⟩
  try simp only [smZ] at *
  obtain ⟨a2, ea2, qa2⟩ := cs_i64 ((E.I ρ Q42) + (1))
  try simp only [ea2] at *
  omega
def f14 : E := (.imp (.and Q108 (.and Q126 (.and Q128 (.and Q124 (.and Q143 (.and Q145 (.and Q146 (.and Q117 (.and Q52 Q147))))))))) (.not (.cmp .lss Q141 Q5)))
theorem fact14 (ρ : Env) : E.B ρ f14 = true := by
  unfold f14
  rw [sm_B_imp]
  simp only [sm_B_and]
  rintro ⟨p0, p1, p2, p3, p4, p5, p6, p7, p8, p9, p10, p11, p12⟩
  try simp only [smZ] at *
  omega
def f15 : E := (.imp (.and Q108 (.and Q126 (.and Q128 (.and Q124 (.and Q143 (.and Q145 (.and Q146 (.and Q117 Q147)))))))) (.not (.cmp .lss (.fn 6 (.pr Q5 (.fn 8 (.pr (.int 10) (.fn 6 (.pr (.int 1) (.fn 8 (.pr (.int 12) Q140)))))))) Q141)))
theorem fact15 (ρ : Env) : E.B ρ f15 = true := by
  unfold f15
  rw [sm_B_imp]
  simp only [sm_B_and]
  rintro ⟨p0, p1, p2, p3, p4, p5, p6, p7, p8, p9, p10, p11⟩
  try simp only [smZ] at *
  obtain ⟨a10, ea10, qa10⟩ := cs_i64 ((E.I ρ Q42) + (1))
  try simp only [ea10] at *
  omega
def f16 : E := (.imp (.and Q108 (.and Q56 Q101)) (.cmp .lss (.fn 7 (.pr (.fn 9 (.pr Q4 (.int 12))) Q140)) (.fn 7 (.pr (.fn 9 (.pr Q4 (.int 12))) Q42))))
theorem fact16 (ρ : Env) : E.B ρ f16 = true := by
  unfold f16
  rw [sm_B_imp]
  simp only [sm_B_and]
  rintro ⟨p0, p1, p2⟩
  try simp only [smZ] at *
  obtain ⟨a2, ea2, qa2⟩ := cs_i64 ((E.I ρ Q42) + (1))
  try simp only [ea2] at *
  omega
def f17 : E := (.imp (.and Q108 Q56) (.not (.cmp .lss (.fn 7 (.pr (.fn 9 (.pr Q4 (.int 12))) Q140)) (.int 0))))
theorem fact17 (ρ : Env) : E.B ρ f17 = true := by
  unfold f17
  rw [sm_B_imp]
  simp only [sm_B_and]
  rintro ⟨p0, p1⟩
  try simp only [smZ] at *
  obtain ⟨a2, ea2, qa2⟩ := cs_i64 ((E.I ρ Q42) + (1))
  try simp only [ea2] at *
  omega
def facts : List E := [f0, f1, f2, f3, f4, f5, f6, f7, f8, f9, f10, f11, f12, f13, f14, f15, f16, f17]
theorem facts_ok : ∀ e ∈ facts, ∀ ρ : Env, E.B ρ e = true := (all_cons fact0 (all_cons fact1 (all_cons fact2 (all_cons fact3 (all_cons fact4 (all_cons fact5 (all_cons fact6 (all_cons fact7 (all_cons fact8 (all_cons fact9 (all_cons fact10 (all_cons fact11 (all_cons fact12 (all_cons fact13 (all_cons fact14 (all_cons fact15 (all_cons fact16 (all_cons fact17 all_nil))))))))))))))))))
end p3
set_option maxRecDepth 100000 in
theorem spec3_0 : NatOk Try.prog (specNat (spO)) :=
  spec_of_check good (facts := p3.facts) p3.facts_ok (anns := annO) (plainAnns_ok _ (by kernel_rfl)) (nats := natl4) natl4_ok (n := 3000) (by kernel_rfl)
def natl5 : List Nat1 := specNat (spO) :: natl4
theorem natl5_ok : ∀ x ∈ natl5, NatOk Try.prog x := by
  intro x hx
  rcases List.mem_cons.1 hx with rfl | hx
  · exact spec3_0
  exact natl4_ok x hx

namespace p4
def f0 : E := (.imp Q148 (.fn 118 (.pr (.int 0) (.fn 23 (.pr (.fn 9 (.pr Q4 (.int 5))) (.fn 10 (.int 0)))))))
theorem fact0 (ρ : Env) : E.B ρ f0 = true := by
  unfold f0
  rw [sm_B_imp]
  intro p0
  obtain ⟨g0, g1⟩ : (-9223372036854775808) ≤ E.I ρ (.fn 9 (.pr Q4 (.int 5))) ∧ E.I ρ (.fn 9 (.pr Q4 (.int 5))) ≤ (9223372036854775807) := by
    have hr0 := @rows_nn ρ Q4 (5)
    try simp only [smZ] at *
    omega
  exact ty0_I ⟨_, rfl⟩ g0 g1 ty0_nil
def f1 : E := (.imp (.fn 102 (.pr Q0 (.pr Q9 (.pr Q2 (.pr Q3 (.pr (.fn 9 (.pr Q4 (.int 5))) (.int 1000))))))) (.fn 101 (.pr Q0 (.pr Q9 (.pr Q2 (.pr Q3 (.pr (.int 2) (.pr Q4 (.int 0)))))))))
theorem fact1 (ρ : Env) : E.B ρ f1 = true := by
  unfold f1
  rw [sm_B_imp]
  intro p0
  exact t101_head2 p0
def f2 : E := (.imp Q106 (.not (.cmp .lss (.fn 6 (.pr Q5 (.fn 8 (.pr (.int 10) (.fn 6 (.pr (.int 1) (.fn 6 (.pr (.fn 8 (.pr (.int 5) (.int 0))) (.fn 8 (.pr (.int 2) (.fn 114 (.pr Q4 (.int 0))))))))))))) Q74)))
theorem fact2 (ρ : Env) : E.B ρ f2 = true := by
  unfold f2
  rw [sm_B_imp]
  simp only [sm_B_and]
  rintro ⟨p0, p1, p2, p3⟩
  have ht0 := @tg_nn ρ Q4 (.int 0)
  have hu0 := tg_zero (ρ := ρ) (l := Q4) (i := (.int 0)) (Int.le_refl 0)
  try simp only [smZ] at *
  have n3 := @fn0_nn ρ Q0
  have n4 := @fn0_nn ρ Q2
  omega
def f3 : E := Q107
theorem fact3 (ρ : Env) : E.B ρ f3 = true := by
  unfold f3
  rw [sm_B_imp]
  intro p0
  try simp only [smZ] at *
  have n2 := @fn0_nn ρ Q40
  omega
def f4 : E := (.imp (.and Q150 (.and Q155 (.not Q156))) (.fn 101 (.pr Q40 (.pr Q41 (.pr Q2 (.pr Q3 (.pr (.int 2) (.pr Q4 (.fn 9 (.pr Q4 (.int 5)))))))))))
theorem fact4 (ρ : Env) : E.B ρ f4 = true := by
  unfold f4
  rw [sm_B_imp]
  simp only [sm_B_and]
  rintro ⟨p0, p1, p2⟩
  have g0 : E.I ρ (.fn 9 (.pr Q4 (.int 5))) = E.I ρ Q42 := by
    try simp only [smZ] at *
    omega
  exact t101_eq p1 g0
def f5 : E := (.imp (.and Q157 (.and Q45 (.and Q56 (.and Q158 (.and Q148 (.and Q159 (.and Q89 (.and Q119 (.and Q36 Q156))))))))) (.not (.cmp .lss (.int 2000000) Q44)))
theorem fact5 (ρ : Env) : E.B ρ f5 = true := by
  unfold f5
  rw [sm_B_imp]
  simp only [sm_B_and]
  rintro ⟨p0, p1, p2, p3, p4, p5, p6, p7, p8, p9⟩
  have hr0 := @rows_nn ρ Q4 (5)
  have ht0 := @tg_nn ρ Q4 Q42
  have ht1 := @tg_nn ρ Q4 (.fn 9 (.pr Q4 (.int 5)))
  have hm9 := tg_le (i := Q42) p5 (by simp only [smZ] at * <;> omega) (by simp only [smZ] at * <;> omega)
  have hn9 := rows_nn (ρ := ρ) (l := (.fn 1 (.pr Q4 (.fn 6 (.pr (.fn 8 (.pr Q42 (.int 5))) (.int 4)))))) (w := 2)
  have ho9 := tg_nn (ρ := ρ) (l := Q4) (i := Q42)
  try simp only [smZ] at *
  have n5 := @fn0_nn ρ Q40
  have n8 := @fn0_nn ρ Q2
  omega
def f6 : E := (.imp (.and Q157 (.and Q45 (.and Q150 (.and (.not Q156) Q36)))) (.not (.cmp .lss (.fn 6 (.pr Q5 (.fn 8 (.pr (.int 10) (.fn 6 (.pr (.int 1) (.fn 6 (.pr (.fn 8 (.pr (.int 5) (.fn 9 (.pr Q4 (.int 5))))) (.fn 8 (.pr (.int 2) (.fn 114 (.pr Q4 (.fn 9 (.pr Q4 (.int 5))))))))))))))) Q44)))
theorem fact6 (ρ : Env) : E.B ρ f6 = true := by
  unfold f6
  rw [sm_B_imp]
  simp only [sm_B_and]
  rintro ⟨p0, p1, p2, p3, p4⟩
  have hr0 := @rows_nn ρ Q4 (5)
  have ht0 := @tg_nn ρ Q4 Q42
  have ht1 := @tg_nn ρ Q4 (.fn 9 (.pr Q4 (.int 5)))
  have hk20 := tg_mono (ρ := ρ) (l := Q4) (i := Q42) (j := (.fn 9 (.pr Q4 (.int 5)))) (by simp only [smZ] at * <;> omega)
  have hz30 := tg_mono (ρ := ρ) (l := Q4) (i := (.fn 9 (.pr Q4 (.int 5)))) (j := Q42) (by simp only [smZ] at * <;> omega)
  try simp only [smZ] at *
  have n5 := @fn0_nn ρ Q40
  have n7 := @fn0_nn ρ Q2
  omega
def f7 : E := (.imp Q160 (.fn 118 (.pr (.int 0) (.fn 23 (.pr (.fn 1 (.pr Q4 (.fn 6 (.pr (.fn 8 (.pr Q42 (.int 5))) (.int 0))))) (.fn 23 (.pr (.fn 1 (.pr Q4 (.fn 6 (.pr (.fn 8 (.pr Q42 (.int 5))) (.int 1))))) (.fn 23 (.pr (.fn 1 (.pr Q4 (.fn 6 (.pr (.fn 8 (.pr Q42 (.int 5))) (.int 2))))) (.fn 23 (.pr (.fn 1 (.pr Q4 (.fn 6 (.pr (.fn 8 (.pr Q42 (.int 5))) (.int 3))))) (.fn 10 (.int 0)))))))))))))
theorem fact7 (ρ : Env) : E.B ρ f7 = true := by
  unfold f7
  rw [sm_B_imp]
  simp only [sm_B_and]
  rintro ⟨p0, p1, p2⟩
  exact t118_it p2 (by simp only [smZ] at * <;> omega) (by simp only [smZ] at * <;> omega)
def f8 : E := (.imp (.and Q56 (.and Q159 Q124)) (.not (.cmp .lss Q122 (.int 0))))
theorem fact8 (ρ : Env) : E.B ρ f8 = true := by
  unfold f8
  rw [sm_B_imp]
  simp only [sm_B_and]
  rintro ⟨p0, p1, p2⟩
  try simp only [smZ] at *
  have n3 := @fn0_nn ρ Q123
  omega
def f9 : E := (.imp (.and Q157 Q172) (.not (.cmp .lss (.int 1000000) Q122)))
theorem fact9 (ρ : Env) : E.B ρ f9 = true := by
  unfold f9
  rw [sm_B_imp]
  simp only [sm_B_and]
  rintro ⟨p0, p1, p2, p3, p4, p5, p6, p7, p8, p9, p10, p11, p12⟩
  have hr0 := @rows_nn ρ Q4 (5)
  have ht0 := @tg_nn ρ Q4 Q42
  have ht1 := @tg_nn ρ Q4 (.fn 9 (.pr Q4 (.int 5)))
  have hm9 := tg_le (i := Q42) p5 (by simp only [smZ] at * <;> omega) (by simp only [smZ] at * <;> omega)
  have hn9 := rows_nn (ρ := ρ) (l := (.fn 1 (.pr Q4 (.fn 6 (.pr (.fn 8 (.pr Q42 (.int 5))) (.int 4)))))) (w := 2)
  have ho9 := tg_nn (ρ := ρ) (l := Q4) (i := Q42)
  try simp only [smZ] at *
  have n5 := @fn0_nn ρ Q40
  have n8 := @fn0_nn ρ Q2
  have n10 := @fn0_nn ρ Q123
  omega
def f10 : E := (.imp (.and Q157 (.and Q52 Q172)) (.not (.cmp .lss Q122 (.int 1))))
theorem fact10 (ρ : Env) : E.B ρ f10 = true := by
  unfold f10
  rw [sm_B_imp]
  simp only [sm_B_and]
  rintro ⟨p0, p1, p2, p3, p4, p5, p6, p7, p8, p9, p10, p11, p12, p13⟩
  try simp only [smZ] at *
  omega
def f11 : E := (.imp (.and Q156 (.and Q56 (.and Q158 Q159))) (.fn 118 (.pr (.int 0) (.fn 23 (.pr (.fn 9 (.pr (.fn 1 (.pr Q4 (.fn 6 (.pr (.fn 8 (.pr Q42 (.int 5))) (.int 4))))) (.int 2))) (.fn 10 (.int 0)))))))
theorem fact11 (ρ : Env) : E.B ρ f11 = true := by
  unfold f11
  rw [sm_B_imp]
  simp only [sm_B_and]
  rintro ⟨p0, p1, p2, p3⟩
  obtain ⟨g0, g1⟩ : (-9223372036854775808) ≤ E.I ρ (.fn 9 (.pr (.fn 1 (.pr Q4 (.fn 6 (.pr (.fn 8 (.pr Q42 (.int 5))) (.int 4))))) (.int 2))) ∧ E.I ρ (.fn 9 (.pr (.fn 1 (.pr Q4 (.fn 6 (.pr (.fn 8 (.pr Q42 (.int 5))) (.int 4))))) (.int 2))) ≤ (9223372036854775807) := by
    have hr0 := @rows_nn ρ Q4 (5)
    have hr1 := @rows_nn ρ (.fn 1 (.pr Q4 (.fn 6 (.pr (.fn 8 (.pr Q42 (.int 5))) (.int 4))))) (2)
    have ht0 := @tg_nn ρ Q4 (.fn 9 (.pr Q4 (.int 5)))
    have hm0 := tg_le (i := Q42) p3 (by simp only [smZ] at * <;> omega) (by simp only [smZ] at * <;> omega)
    have hn0 := rows_nn (ρ := ρ) (l := (.fn 1 (.pr Q4 (.fn 6 (.pr (.fn 8 (.pr Q42 (.int 5))) (.int 4)))))) (w := 2)
    have ho0 := tg_nn (ρ := ρ) (l := Q4) (i := Q42)
    try simp only [smZ] at *
    omega
  exact ty0_I ⟨_, rfl⟩ g0 g1 ty0_nil
def f12 : E := (.imp (.and Q155 (.and (.fn 101 (.pr Q123 (.pr (.var 24) (.pr Q40 (.pr Q41 (.pr (.int 0) (.pr (.fn 23 (.pr (.fn 1 (.pr Q4 (.fn 6 (.pr (.fn 8 (.pr Q42 (.int 5))) (.int 0))))) (.fn 23 (.pr (.fn 1 (.pr Q4 (.fn 6 (.pr (.fn 8 (.pr Q42 (.int 5))) (.int 1))))) (.fn 23 (.pr (.fn 1 (.pr Q4 (.fn 6 (.pr (.fn 8 (.pr Q42 (.int 5))) (.int 2))))) (.fn 23 (.pr (.fn 1 (.pr Q4 (.fn 6 (.pr (.fn 8 (.pr Q42 (.int 5))) (.int 3))))) (.fn 10 (.int 0)))))))))) (.int 4)))))))) (.and (.fn 102 (.pr (.var 25) (.pr (.var 28) (.pr Q123 (.pr (.var 24) (.pr (.fn 9 (.pr (.fn 1 (.pr Q4 (.fn 6 (.pr (.fn 8 (.pr Q42 (.int 5))) (.int 4))))) (.int 2))) (.int 16))))))) Q160))) (.fn 107 (.pr (.var 25) (.pr (.var 28) (.pr Q2 (.pr Q3 (.pr Q4 (.pr Q42 (.int 0)))))))))
theorem fact12 (ρ : Env) : E.B ρ f12 = true := by
  unfold f12
  rw [sm_B_imp]
  simp only [sm_B_and]
  rintro ⟨p0, p1, p2, p3, p4, p5⟩
  exact t107_start p5 p0 p1 p2 (by simp only [smZ] at * <;> omega) (by simp only [smZ] at * <;> omega)
def f13 : E := (.imp (.and Q157 (.and Q52 (.and Q45 (.and Q56 (.and Q158 (.and Q148 (.and Q159 (.and Q156 (.and Q162 (.and Q128 (.and Q124 (.and Q174 (.and Q145 (.and Q146 Q36)))))))))))))) (.not (.cmp .lss Q141 Q5)))
theorem fact13 (ρ : Env) : E.B ρ f13 = true := by
  unfold f13
  rw [sm_B_imp]
  simp only [sm_B_and]
  rintro ⟨p0, p1, p2, p3, p4, p5, p6, p7, p8, p9, p10, p11, p12, p13, p14⟩
  try simp only [smZ] at *
  omega
def f14 : E := (.imp (.and Q157 (.and Q45 (.and Q162 (.and Q128 (.and Q124 (.and Q174 (.and Q145 (.and Q146 (.and Q156 (.and Q56 Q36)))))))))) (.not (.cmp .lss (.fn 6 (.pr Q5 (.fn 8 (.pr (.int 10) (.fn 6 (.pr (.fn 6 (.pr (.int 1) (.fn 6 (.pr (.fn 8 (.pr (.int 5) Q42)) (.fn 8 (.pr (.int 2) (.fn 114 (.pr Q4 Q42)))))))) (.fn 6 (.pr (.int 5) (.fn 8 (.pr (.int 2) (.int 0))))))))))) Q141)))
theorem fact14 (ρ : Env) : E.B ρ f14 = true := by
  unfold f14
  rw [sm_B_imp]
  simp only [sm_B_and]
  rintro ⟨p0, p1, p2, p3, p4, p5, p6, p7, p8, p9, p10⟩
  try simp only [smZ] at *
  omega
def f15 : E := (.imp (.and Q156 (.and Q56 Q177)) (.not (.cmp .lss Q175 (.int 0))))
theorem fact15 (ρ : Env) : E.B ρ f15 = true := by
  unfold f15
  rw [sm_B_imp]
  simp only [sm_B_and]
  rintro ⟨p0, p1, p2⟩
  have hr0 := @rows_nn ρ Q4 (5)
  try simp only [smZ] at *
  have n4 := @fn0_nn ρ Q176
  omega
def f16 : E := (.imp (.and (.not Q179) (.and Q181 (.and Q156 (.and Q56 (.and Q185 (.and Q148 Q159)))))) (.fn 101 (.pr Q176 (.pr (.var 43) (.pr Q2 (.pr Q3 (.pr (.int 2) (.pr Q4 Q140))))))))
theorem fact16 (ρ : Env) : E.B ρ f16 = true := by
  unfold f16
  rw [sm_B_imp]
  simp only [sm_B_and]
  rintro ⟨p0, p1, p2, p3, p4, p5, p6⟩
  obtain ⟨g1, g0⟩ : E.I ρ Q178 = E.I ρ (.fn 9 (.pr (.fn 1 (.pr Q4 (.fn 6 (.pr (.fn 8 (.pr Q42 (.int 5))) (.int 4))))) (.int 2))) ∧ E.I ρ Q140 = E.I ρ (.fn 6 (.pr Q42 (.int 1))) := by
    try simp only [smZ] at *
    obtain ⟨a4, ea4, qa4⟩ := cs_i64 ((E.I ρ Q42) + (1))
    try simp only [ea4] at *
    omega
  exact t107_end p6 p4 (by simp only [smZ] at * <;> omega) (by simp only [smZ] at * <;> omega) g1 g0
def f17 : E := (.imp (.and Q187 (.and Q156 (.and Q56 (.and Q158 (.and Q148 (.and Q159 (.and Q179 (.and Q177 Q121)))))))) (.not (.cmp .lss (.int 2000000) Q175)))
theorem fact17 (ρ : Env) : E.B ρ f17 = true := by
  unfold f17
  rw [sm_B_imp]
  simp only [sm_B_and]
  rintro ⟨p0, p1, p2, p3, p4, p5, p6, p7, p8, p9, p10⟩
  have hr0 := @rows_nn ρ Q4 (5)
  have hr1 := @rows_nn ρ (.fn 1 (.pr Q4 (.fn 6 (.pr (.fn 8 (.pr Q42 (.int 5))) (.int 4))))) (2)
  have ht0 := @tg_nn ρ Q4 Q42
  have ht1 := @tg_nn ρ Q4 (.fn 9 (.pr Q4 (.int 5)))
  have hm1 := tg_le (i := Q42) p5 (by simp only [smZ] at * <;> omega) (by simp only [smZ] at * <;> omega)
  have hn1 := rows_nn (ρ := ρ) (l := (.fn 1 (.pr Q4 (.fn 6 (.pr (.fn 8 (.pr Q42 (.int 5))) (.int 4)))))) (w := 2)
  have ho1 := tg_nn (ρ := ρ) (l := Q4) (i := Q42)
  try simp only [smZ] at *
  have n9 := @fn0_nn ρ Q176
  have n10 := @fn0_nn ρ Q2
  omega
def f18 : E := (.imp Q188 (.not (.cmp .lss Q140 (.int 0))))
theorem fact18 (ρ : Env) : E.B ρ f18 = true := by
  unfold f18
  rw [sm_B_imp]
  simp only [sm_B_and]
  rintro ⟨p0, p1, p2, p3⟩
  try simp only [smZ] at *
  obtain ⟨a2, ea2, qa2⟩ := cs_i64 ((E.I ρ Q42) + (1))
  try simp only [ea2] at *
  omega
def f19 : E := (.imp (.and Q179 (.and Q190 Q160)) (.fn 118 (.pr (.int 0) (.fn 23 (.pr (.fn 1 (.pr (.fn 1 (.pr Q4 (.fn 6 (.pr (.fn 8 (.pr Q42 (.int 5))) (.int 4))))) (.fn 6 (.pr (.fn 8 (.pr Q178 (.int 2))) (.int 0))))) (.fn 23 (.pr (.fn 1 (.pr (.fn 1 (.pr Q4 (.fn 6 (.pr (.fn 8 (.pr Q42 (.int 5))) (.int 4))))) (.fn 6 (.pr (.fn 8 (.pr Q178 (.int 2))) (.int 1))))) (.fn 10 (.int 0)))))))))
theorem fact19 (ρ : Env) : E.B ρ f19 = true := by
  unfold f19
  rw [sm_B_imp]
  simp only [sm_B_and]
  rintro ⟨p0, p1, p2, p3, p4⟩
  exact t118_tgt p4 (by simp only [smZ] at * <;> omega) (by simp only [smZ] at * <;> omega) (by simp only [smZ] at * <;> omega) (by simp only [smZ] at * <;> omega)
def f20 : E := (.imp (.and Q159 (.and Q156 Q56)) (.not (.cmp .lss (.fn 9 (.pr Q4 (.int 5))) Q140)))
theorem fact20 (ρ : Env) : E.B ρ f20 = true := by
  unfold f20
  rw [sm_B_imp]
  simp only [sm_B_and]
  rintro ⟨p0, p1, p2⟩
  try simp only [smZ] at *
  obtain ⟨a2, ea2, qa2⟩ := cs_i64 ((E.I ρ Q42) + (1))
  try simp only [ea2] at *
  omega
def f21 : E := (.imp (.and Q179 (.and (.fn 101 (.pr (.var 45) (.pr (.var 48) (.pr Q176 (.pr (.var 43) (.pr (.int 0) (.pr (.fn 23 (.pr (.fn 1 (.pr (.fn 1 (.pr Q4 (.fn 6 (.pr (.fn 8 (.pr Q42 (.int 5))) (.int 4))))) (.fn 6 (.pr (.fn 8 (.pr Q178 (.int 2))) (.int 0))))) (.fn 23 (.pr (.fn 1 (.pr (.fn 1 (.pr Q4 (.fn 6 (.pr (.fn 8 (.pr Q42 (.int 5))) (.int 4))))) (.fn 6 (.pr (.fn 8 (.pr Q178 (.int 2))) (.int 1))))) (.fn 10 (.int 0)))))) (.int 2)))))))) (.and Q190 (.and Q156 (.and Q56 (.and Q185 (.and Q158 Q159))))))) (.fn 107 (.pr (.var 45) (.pr (.var 48) (.pr Q2 (.pr Q3 (.pr Q4 (.pr Q42 Q191))))))))
theorem fact21 (ρ : Env) : E.B ρ f21 = true := by
  unfold f21
  rw [sm_B_imp]
  simp only [sm_B_and]
  rintro ⟨p0, p1, p2, p3, p4, p5, p6, p7⟩
  have g0 : E.I ρ Q191 = E.I ρ (.fn 6 (.pr Q178 (.int 1))) := by
    have hr0 := @rows_nn ρ (.fn 1 (.pr Q4 (.fn 6 (.pr (.fn 8 (.pr Q42 (.int 5))) (.int 4))))) (2)
    have hr1 := @rows_nn ρ Q4 (5)
    have ht0 := @tg_nn ρ Q4 (.fn 9 (.pr Q4 (.int 5)))
    have hm3 := tg_le (i := Q42) p7 (by simp only [smZ] at * <;> omega) (by simp only [smZ] at * <;> omega)
    have hn3 := rows_nn (ρ := ρ) (l := (.fn 1 (.pr Q4 (.fn 6 (.pr (.fn 8 (.pr Q42 (.int 5))) (.int 4)))))) (w := 2)
    have ho3 := tg_nn (ρ := ρ) (l := Q4) (i := Q42)
    try simp only [smZ] at *
    obtain ⟨a5, ea5, qa5⟩ := cs_i64 ((E.I ρ Q178) + (1))
    try simp only [ea5] at *
    omega
  exact t107_step p5 p1 (by simp only [smZ] at * <;> omega) (by simp only [smZ] at * <;> omega) (by simp only [smZ] at * <;> omega) g0
def f22 : E := (.imp (.and (.not Q179) (.and Q187 (.and Q177 (.and Q181 (.and Q156 (.and Q56 (.and Q148 (.and Q159 Q36)))))))) (.not (.cmp .lss (.fn 6 (.pr Q5 (.fn 8 (.pr (.int 10) (.fn 6 (.pr (.int 1) (.fn 6 (.pr (.fn 8 (.pr (.int 5) Q140)) (.fn 8 (.pr (.int 2) (.fn 114 (.pr Q4 Q140)))))))))))) Q175)))
theorem fact22 (ρ : Env) : E.B ρ f22 = true := by
  unfold f22
  rw [sm_B_imp]
  simp only [sm_B_and]
  rintro ⟨p0, p1, p2, p3, p4, p5, p6, p7, p8⟩
  have g0 : E.I ρ Q140 = E.I ρ (.fn 6 (.pr Q42 (.int 1))) := by
    try simp only [smZ] at *
    obtain ⟨a9, ea9, qa9⟩ := cs_i64 ((E.I ρ Q42) + (1))
    try simp only [ea9] at *
    omega
  have g1 := tg_step (i := Q42) (j := Q140) p7 (by simp only [smZ] at * <;> omega) (by simp only [smZ] at * <;> omega) g0
  try simp only [smZ] at *
  obtain ⟨a10, ea10, qa10⟩ := cs_i64 ((E.I ρ Q42) + (1))
  try simp only [ea10] at *
  omega
def f23 : E := (.imp Q192 (.not (.cmp .lss Q191 (.int 0))))
theorem fact23 (ρ : Env) : E.B ρ f23 = true := by
  unfold f23
  rw [sm_B_imp]
  simp only [sm_B_and]
  rintro ⟨p0, p1, p2, p3, p4, p5⟩
  have hr0 := @rows_nn ρ Q4 (5)
  have hr1 := @rows_nn ρ (.fn 1 (.pr Q4 (.fn 6 (.pr (.fn 8 (.pr Q42 (.int 5))) (.int 4))))) (2)
  have ht0 := @tg_nn ρ Q4 (.fn 9 (.pr Q4 (.int 5)))
  have hm4 := tg_le (i := Q42) p1 (by simp only [smZ] at * <;> omega) (by simp only [smZ] at * <;> omega)
  have hn4 := rows_nn (ρ := ρ) (l := (.fn 1 (.pr Q4 (.fn 6 (.pr (.fn 8 (.pr Q42 (.int 5))) (.int 4)))))) (w := 2)
  have ho4 := tg_nn (ρ := ρ) (l := Q4) (i := Q42)
  try simp only [smZ] at *
  obtain ⟨a5, ea5, qa5⟩ := cs_i64 ((E.I ρ Q178) + (1))
  try simp only [ea5] at *
  omega
def f24 : E := (.imp Q188 (.cmp .lss (.fn 7 (.pr (.fn 9 (.pr Q4 (.int 5))) Q140)) (.fn 7 (.pr (.fn 9 (.pr Q4 (.int 5))) Q42))))
theorem fact24 (ρ : Env) : E.B ρ f24 = true := by
  unfold f24
  rw [sm_B_imp]
  simp only [sm_B_and]
  rintro ⟨p0, p1, p2, p3⟩
  try simp only [smZ] at *
  obtain ⟨a2, ea2, qa2⟩ := cs_i64 ((E.I ρ Q42) + (1))
  try simp only [ea2] at *
  omega
def f25 : E := (.imp Q192 (.not (.cmp .lss (.fn 9 (.pr (.fn 1 (.pr Q4 (.fn 6 (.pr (.fn 8 (.pr Q42 (.int 5))) (.int 4))))) (.int 2))) Q191)))
theorem fact25 (ρ : Env) : E.B ρ f25 = true := by
  unfold f25
  rw [sm_B_imp]
  simp only [sm_B_and]
  rintro ⟨p0, p1, p2, p3, p4, p5⟩
  try simp only [smZ] at *
  obtain ⟨a5, ea5, qa5⟩ := cs_i64 ((E.I ρ Q178) + (1))
  try simp only [ea5] at *
  omega
def f26 : E := (.imp (.and Q159 (.and Q156 Q56)) (.not (.cmp .lss (.fn 7 (.pr (.fn 9 (.pr Q4 (.int 5))) Q140)) (.int 0))))
theorem fact26 (ρ : Env) : E.B ρ f26 = true := by
  unfold f26
  rw [sm_B_imp]
  simp only [sm_B_and]
  rintro ⟨p0, p1, p2⟩
  try simp only [smZ] at *
  obtain ⟨a2, ea2, qa2⟩ := cs_i64 ((E.I ρ Q42) + (1))
  try simp only [ea2] at *
  omega
def f27 : E := (.imp (.and Q187 (.and Q156 (.and Q56 (.and Q158 (.and Q148 (.and Q159 (.and Q179 (.and Q195 (.and (.not (.cmp .lss Q193 Q175)) (.and Q196 (.and (.not (.cmp .lss Q175 Q5)) (.and Q177 Q36)))))))))))) (.not (.cmp .lss Q193 Q5)))
theorem fact27 (ρ : Env) : E.B ρ f27 = true := by
  unfold f27
  rw [sm_B_imp]
  simp only [sm_B_and]
  rintro ⟨p0, p1, p2, p3, p4, p5, p6, p7, p8, p9, p10, p11, p12⟩
  try simp only [smZ] at *
  omega
def f28 : E := (.imp (.and Q179 (.and Q195 (.and (.not (.cmp .lss Q193 Q175)) (.and Q196 (.and Q187 (.and Q177 (.and Q190 (.and Q156 (.and Q56 (.and Q158 (.and Q159 Q36))))))))))) (.not (.cmp .lss (.fn 6 (.pr Q5 (.fn 8 (.pr (.int 10) (.fn 6 (.pr (.fn 6 (.pr (.int 1) (.fn 6 (.pr (.fn 8 (.pr (.int 5) Q42)) (.fn 8 (.pr (.int 2) (.fn 114 (.pr Q4 Q42)))))))) (.fn 6 (.pr (.int 5) (.fn 8 (.pr (.int 2) Q191)))))))))) Q193)))
theorem fact28 (ρ : Env) : E.B ρ f28 = true := by
  unfold f28
  rw [sm_B_imp]
  simp only [sm_B_and]
  rintro ⟨p0, p1, p2, p3, p4, p5, p6, p7, p8, p9, p10, p11⟩
  have hr0 := @rows_nn ρ (.fn 1 (.pr Q4 (.fn 6 (.pr (.fn 8 (.pr Q42 (.int 5))) (.int 4))))) (2)
  have hr1 := @rows_nn ρ Q4 (5)
  have ht0 := @tg_nn ρ Q4 Q42
  have ht1 := @tg_nn ρ Q4 (.fn 9 (.pr Q4 (.int 5)))
  have hm7 := tg_le (i := Q42) p10 (by simp only [smZ] at * <;> omega) (by simp only [smZ] at * <;> omega)
  have hn7 := rows_nn (ρ := ρ) (l := (.fn 1 (.pr Q4 (.fn 6 (.pr (.fn 8 (.pr Q42 (.int 5))) (.int 4)))))) (w := 2)
  have ho7 := tg_nn (ρ := ρ) (l := Q4) (i := Q42)
  try simp only [smZ] at *
  have n5 := @fn0_nn ρ (.var 45)
  have n9 := @fn0_nn ρ Q176
  have n12 := @fn0_nn ρ Q2
  obtain ⟨a12, ea12, qa12⟩ := cs_i64 ((E.I ρ Q178) + (1))
  try simp only [ea12] at *
  omega
def f29 : E := (.imp Q192 (.cmp .lss (.fn 7 (.pr (.fn 9 (.pr (.fn 1 (.pr Q4 (.fn 6 (.pr (.fn 8 (.pr Q42 (.int 5))) (.int 4))))) (.int 2))) Q191)) (.fn 7 (.pr (.fn 9 (.pr (.fn 1 (.pr Q4 (.fn 6 (.pr (.fn 8 (.pr Q42 (.int 5))) (.int 4))))) (.int 2))) Q178))))
theorem fact29 (ρ : Env) : E.B ρ f29 = true := by
  unfold f29
  rw [sm_B_imp]
  simp only [sm_B_and]
  rintro ⟨p0, p1, p2, p3, p4, p5⟩
  have hr0 := @rows_nn ρ Q4 (5)
  have hr1 := @rows_nn ρ (.fn 1 (.pr Q4 (.fn 6 (.pr (.fn 8 (.pr Q42 (.int 5))) (.int 4))))) (2)
  have ht0 := @tg_nn ρ Q4 (.fn 9 (.pr Q4 (.int 5)))
  have hm4 := tg_le (i := Q42) p1 (by simp only [smZ] at * <;> omega) (by simp only [smZ] at * <;> omega)
  have hn4 := rows_nn (ρ := ρ) (l := (.fn 1 (.pr Q4 (.fn 6 (.pr (.fn 8 (.pr Q42 (.int 5))) (.int 4)))))) (w := 2)
  have ho4 := tg_nn (ρ := ρ) (l := Q4) (i := Q42)
  try simp only [smZ] at *
  obtain ⟨a5, ea5, qa5⟩ := cs_i64 ((E.I ρ Q178) + (1))
  try simp only [ea5] at *
  omega
def f30 : E := (.imp Q192 (.not (.cmp .lss (.fn 7 (.pr (.fn 9 (.pr (.fn 1 (.pr Q4 (.fn 6 (.pr (.fn 8 (.pr Q42 (.int 5))) (.int 4))))) (.int 2))) Q191)) (.int 0))))
theorem fact30 (ρ : Env) : E.B ρ f30 = true := by
  unfold f30
  rw [sm_B_imp]
  simp only [sm_B_and]
  rintro ⟨p0, p1, p2, p3, p4, p5⟩
  try simp only [smZ] at *
  obtain ⟨a5, ea5, qa5⟩ := cs_i64 ((E.I ρ Q178) + (1))
  try simp only [ea5] at *
  omega
def facts : List E := [f0, f1, f2, f3, f4, f5, f6, f7, f8, f9, f10, f11, f12, f13, f14, f15, f16, f17, f18, f19, f20, f21, f22, f23, f24, f25, f26, f27, f28, f29, f30]
theorem facts_ok : ∀ e ∈ facts, ∀ ρ : Env, E.B ρ e = true := (all_cons fact0 (all_cons fact1 (all_cons fact2 (all_cons fact3 (all_cons fact4 (all_cons fact5 (all_cons fact6 (all_cons fact7 (all_cons fact8 (all_cons fact9 (all_cons fact10 (all_cons fact11 (all_cons fact12 (all_cons fact13 (all_cons fact14 (all_cons fact15 (all_cons fact16 (all_cons fact17 (all_cons fact18 (all_cons fact19 (all_cons fact20 (all_cons fact21 (all_cons fact22 (all_cons fact23 (all_cons fact24 (all_cons fact25 (all_cons fact26 (all_cons fact27 (all_cons fact28 (all_cons fact29 (all_cons fact30 all_nil)))))))))))))))))))))))))))))))
end p4
set_option maxRecDepth 100000 in
theorem spec4_0 : NatOk Try.prog (specNat (spI)) :=
  spec_of_check good (facts := p4.facts) p4.facts_ok (anns := annI) (plainAnns_ok _ (by kernel_rfl)) (nats := natl5) natl5_ok (n := 3000) (by kernel_rfl)
def natl6 : List Nat1 := specNat (spI) :: natl5
theorem natl6_ok : ∀ x ∈ natl6, NatOk Try.prog x := by
  intro x hx
  rcases List.mem_cons.1 hx with rfl | hx
  · exact spec4_0
  exact natl5_ok x hx

end
end Go.Proofs.Ytoicbojdnjcmiaa.viewEncodes

/-
  DrawsPlays: contracts of functions, part 1.
-/
import Derived.Test.YtmcifbikfjmmfaaRows
import Derived.Test.YtmcifbikfjmmfaaNat
import Derived.WalkKit
import Derived.ProofKit
import Derived.OpenShut
import Derived.ChangeOld
import Derived.Below
import Derived.KernelRfl
import Derived.Lib.SmallJoins
namespace Go.Proofs.Ytmcifbikfjmmfaa.drawsPlays
open Go.ChangeShapes Go.WideShapes Go.ChangeAt Go.RowKit
open Go.SX
set_option linter.unusedVariables false
set_option linter.unusedSimpArgs false
set_option maxRecDepth 100000
noncomputable abbrev Q0 : E := .var 0
noncomputable abbrev Q1 : E := .var 1
noncomputable abbrev Q2 : E := .cmp .lss (.int 41) Q1
noncomputable abbrev Q3 : E := .not Q2
noncomputable abbrev Q4 : E := .not (.cmp .lss Q1 (.int 0))
noncomputable abbrev Q5 : E := .and Q3 Q4
noncomputable abbrev Q6 : E := .ar .add .i64 Q1 (.int 1)
noncomputable abbrev Q7 : E := .cmp .lss Q1 (.fn 9 (.pr Q0 (.int 4)))
noncomputable abbrev Q8 : E := .cmp .lss Q1 (.int 41)
noncomputable abbrev Q9 : E := .pr Q0 Q1
noncomputable abbrev Q10 : E := .fn 130 Q9
noncomputable abbrev Q11 : E := .mn (.fn 9 (.pr Q0 (.int 4))) (.int 41)
noncomputable abbrev Q12 : E := .and Q7 Q5
noncomputable abbrev Q13 : E := .cmp .lss (.int 60) (.fn 0 (.fn 1 (.pr Q0 (.fn 6 (.pr (.fn 8 (.pr Q1 (.int 4))) (.int 3))))))
noncomputable abbrev Q14 : E := .not Q13
noncomputable abbrev Q15 : E := .and Q10 Q4
noncomputable abbrev Q16 : E := .and Q14 Q15
noncomputable abbrev Q17 : E := .fn 130 (.pr Q0 Q6)
noncomputable abbrev Q18 : E := .var 8
noncomputable abbrev Q19 : E := .var 2
noncomputable abbrev Q20 : E := .cmp .lss Q18 Q19
noncomputable abbrev Q21 : E := .cmp .eql Q19 (.fn 0 Q1)
noncomputable abbrev Q22 : E := .cmp .eql Q19 (.fn 0 Q0)
noncomputable abbrev Q23 : E := .and Q21 Q22
noncomputable abbrev Q24 : E := .imp (.and Q20 Q23) (.cmp .lss Q18 (.fn 0 Q1))
noncomputable abbrev Q25 : E := .fn 106 Q9
noncomputable abbrev Q26 : E := .cmp .eql (.fn 1 (.pr Q0 Q18)) (.fn 1 (.pr Q1 Q18))
noncomputable abbrev Q27 : E := .imp Q25 Q26
noncomputable abbrev Q28 : E := .cmp .lss Q19 Q18
noncomputable abbrev Q29 : E := .not Q28
noncomputable abbrev Q30 : E := .cmp .lss Q18 (.int 0)
noncomputable abbrev Q31 : E := .not Q30
noncomputable abbrev Q32 : E := .cmp .lss Q19 (.int 0)
noncomputable abbrev Q33 : E := .not Q32
noncomputable abbrev Q34 : E := .cmp .lss (.int 300) Q19
noncomputable abbrev Q35 : E := .not Q34
noncomputable abbrev Q36 : E := .and Q35 Q23
noncomputable abbrev Q37 : E := .and Q33 Q36
noncomputable abbrev Q38 : E := .and Q31 Q37
noncomputable abbrev Q39 : E := .and Q29 Q38
noncomputable abbrev Q40 : E := .ar .add .i64 Q18 (.int 1)
noncomputable abbrev Q41 : E := .cmp .lss Q40 (.int 0)
noncomputable abbrev Q42 : E := .not Q41
noncomputable abbrev Q43 : E := .imp Q39 Q42
noncomputable abbrev Q44 : E := .and Q20 Q38
noncomputable abbrev Q45 : E := .not (.cmp .lss Q19 Q40)
noncomputable abbrev Q46 : E := .imp Q44 Q45
noncomputable abbrev Q47 : E := .cmp .lss (.fn 7 (.pr Q19 Q40)) (.fn 7 (.pr Q19 Q18))
noncomputable abbrev Q48 : E := .imp Q39 Q47
noncomputable abbrev Q49 : E := .cmp .lss (.fn 7 (.pr Q19 Q40)) (.int 0)
noncomputable abbrev Q50 : E := .not Q49
noncomputable abbrev Q51 : E := .imp Q44 Q50
noncomputable abbrev Q52 : E := .var 3
noncomputable abbrev Q53 : E := .and Q35 Q22
noncomputable abbrev Q54 : E := .and Q33 Q53
noncomputable abbrev Q55 : E := .and Q31 Q54
noncomputable abbrev Q56 : E := .and Q29 Q55
noncomputable abbrev Q57 : E := .and Q20 Q55
noncomputable abbrev Q58 : E := .not (.cmp .lss (.int 4294967296) Q19)
noncomputable abbrev Q59 : E := .cmp .lss (.int 300) Q1
noncomputable abbrev Q60 : E := .not Q59
noncomputable abbrev Q61 : E := .var 5
noncomputable abbrev Q62 : E := .ar .sub .i64 Q61 (.int 1)
noncomputable abbrev Q63 : E := .cmp .lss (.ar .sub .i64 Q1 Q52) Q62
noncomputable abbrev Q64 : E := .cmp .lss (.int 60) Q61
noncomputable abbrev Q65 : E := .not Q64
noncomputable abbrev Q66 : E := .cmp .lss Q61 (.int 1)
noncomputable abbrev Q67 : E := .not Q66
noncomputable abbrev Q68 : E := .var 4
noncomputable abbrev Q69 : E := .cmp .eql Q61 (.fn 0 Q68)
noncomputable abbrev Q70 : E := .not (.cmp .lss Q1 Q52)
noncomputable abbrev Q71 : E := .cmp .eql Q1 (.fn 0 Q0)
noncomputable abbrev Q72 : E := .cmp .lss (.fn 7 (.pr Q1 Q52)) (.fn 7 (.pr Q61 (.int 1)))
noncomputable abbrev Q73 : E := .not Q72
noncomputable abbrev Q74 : E := .and Q4 Q71
noncomputable abbrev Q75 : E := .and Q60 Q74
noncomputable abbrev Q76 : E := .and (.not (.cmp .lss Q52 (.int 0))) Q75
noncomputable abbrev Q77 : E := .and Q70 Q76
noncomputable abbrev Q78 : E := .and Q69 Q77
noncomputable abbrev Q79 : E := .and Q65 (.and Q67 Q69)
noncomputable abbrev Q80 : E := .cmp .lss (.int 0) Q18
noncomputable abbrev Q81 : E := .var 9
noncomputable abbrev Q82 : E := .cmp .eql Q61 (.fn 0 Q81)
noncomputable abbrev Q83 : E := .var 10
noncomputable abbrev Q84 : E := .cmp .eql (.fn 6 (.pr Q83 Q18)) (.fn 6 (.pr Q52 (.fn 7 (.pr Q61 (.int 1)))))
noncomputable abbrev Q85 : E := .pr Q68 (.pr Q18 (.pr Q0 (.pr Q52 Q83)))
noncomputable abbrev Q86 : E := .pr Q81 Q85
noncomputable abbrev Q87 : E := .fn 120 Q86
noncomputable abbrev Q88 : E := .cmp .lss Q18 Q61
noncomputable abbrev Q89 : E := .and Q82 (.and Q88 Q79)
noncomputable abbrev Q90 : E := .and Q80 Q89
noncomputable abbrev Q91 : E := .wr .u64 Q40
noncomputable abbrev Q92 : E := .cmp .lss Q83 (.int 0)
noncomputable abbrev Q93 : E := .not Q92
noncomputable abbrev Q94 : E := .and Q93 Q75
noncomputable abbrev Q95 : E := .and Q84 Q94
noncomputable abbrev Q96 : E := .and Q82 Q95
noncomputable abbrev Q97 : E := .and Q80 Q96
noncomputable abbrev Q98 : E := .ar .rem .u64 (.fn 1 (.pr Q0 Q83)) Q91
noncomputable abbrev Q99 : E := .wr .i64 Q98
noncomputable abbrev Q100 : E := .ar .sub .i64 Q18 (.int 1)
noncomputable abbrev Q101 : E := .ar .add .i64 Q83 (.int 1)
theorem own : ownKnob Try.prog.godebug = none := by kernel_rfl
theorem laidOut : laidOutB Try.prog = true := by kernel_rfl
theorem good : progOk Try.prog = true := by kernel_rfl


noncomputable def ii (e : E) : SV := .int .i64 e
noncomputable def gone : Blk := ⟨true, .gone⟩
noncomputable def at0 (b : Nat) : SV := .ptr b ⟨0, 0, .int 0⟩
noncomputable def eEq (a b : E) : E := .cmp .eql a b
noncomputable def pl (a b : E) : E := .fn 6 (.pr a b)
noncomputable def mi (a b : E) : E := .fn 7 (.pr a b)
noncomputable def f2 (f : Nat) (a b : E) : E := .fn f (.pr a b)
noncomputable def f3 (f : Nat) (a b c : E) : E := .fn f (.pr a (.pr b c))
noncomputable def f4 (f : Nat) (a b c d : E) : E := .fn f (.pr a (.pr b (.pr c d)))
noncomputable def ln (x : E) : E := .fn 0 x
noncomputable def fl (x n c : E) : Blk := ⟨true, .flat [.int .i64] x n c 3⟩
noncomputable def flU (x n c : E) : Blk := ⟨true, .flat [.int .u64] x n c 22⟩
/-- the program's draws: A, its length and room, how many were used -/
noncomputable def drw (n c u : E) : Blk := ⟨true, .cells [.bool (.bool true), .nslice 1 n c, ii u] (.int 3) 60⟩
noncomputable def pcD (A n c u : E) : List E := [.fn 131 A, eEq n (ln A), eLe (.int 0) n, eLe n (.int 300), eLe n c, eLe (.int 0) u, eLe u n]
noncomputable def pcLst (l n c : E) : List E := [eEq n (ln l), eLe (.int 1) n, eLe n (.int 60), eLe n c]
/-- the program's shuffle: 0 A, 1 nA, 2 cA, 3 u, 4 l, 5 n, 6 c -/
noncomputable def hS (u : E) : List Blk := [drw (eV 1) (eV 2) u, flU (eV 0) (eV 1) (eV 2), fl (eV 4) (eV 5) (eV 6)]
noncomputable def pcS : List E := pcD (eV 0) (eV 1) (eV 2) (eV 3) ++ pcLst (eV 4) (eV 5) (eV 6)
noncomputable def f101 (x l A u : E) : E := f4 101 x l A u
noncomputable def f120 (x l i A u p : E) : E := .fn 120 (.pr x (.pr l (.pr i (.pr A (.pr u p)))))
noncomputable def spS : Pact := ⟨10, [at0 0, .nslice 2 (eV 5) (eV 6)], ⟨7, 3, heapL (hS (eV 3)), pcS⟩,
  [(.tup [.nslice 3 (eV 5) (eV 8), ii (.int 0)], ⟨10, 4, heapL (hS (eV 9) ++ [fl (eV 7) (eV 5) (eV 8)]), [eLe (mi (eV 5) (.int 1)) (mi (eV 1) (eV 3)), f101 (eV 7) (eV 4) (eV 0) (eV 3), eEq (eV 9) (pl (eV 3) (mi (eV 5) (.int 1))), eLe (eV 5) (eV 8), eEq (eV 5) (ln (eV 7))]⟩),
   (.tup [.nils, ii (.int 16)], ⟨7, 3, heapL (hS (eV 3)), [eLt (mi (eV 1) (eV 3)) (mi (eV 5) (.int 1))]⟩)]⟩
noncomputable def tS : Tmpl := ⟨tmSlots 51 [(0, at0 0), (1, .nslice 2 (eV 5) (eV 6)), (8, .nslice 4 (eV 5) (eV 7)), (9, ii (eV 8))], ⟨11, 5, heapL (hS (eV 10) ++ [gone, fl (eV 9) (eV 5) (eV 7)]),
  pcS ++ [eLe (eV 5) (eV 7), eLe (mi (eV 5) (.int 1)) (mi (eV 1) (eV 3)), eLe (.int 0) (eV 8), eLt (eV 8) (eV 5), eLe (.int 0) (eV 10), eEq (pl (eV 10) (eV 8)) (pl (eV 3) (mi (eV 5) (.int 1))), eEq (eV 5) (ln (eV 9)), f120 (eV 9) (eV 4) (eV 8) (eV 0) (eV 3) (eV 10)]⟩, eV 8⟩
noncomputable def annS : List Ann := [⟨10, 0, [tS], none⟩]
noncomputable def kU : List CK := [.int .u64]
noncomputable def kI : List CK := [.int .i64]
/-- the reference's choice: 0 L, 1 used, 2 bound -/
noncomputable def rem0 (L i b : E) : E := .wr .i64 (.ar .rem .u64 (.fn 1 (.pr L i)) (.wr .u64 b))
noncomputable def pcC : List E := [.fn 131 (eV 0), eLe (.int 1) (ln (eV 0)), eLe (ln (eV 0)) (.int 300), eLe (.int 0) (eV 1), eLe (eV 1) (.int 300), eLe (.int 1) (eV 2), eLe (eV 2) (.int 4294967296)]
noncomputable def spC : Pact := ⟨34, [.agg [.bsl kU (eV 0), ii (eV 1)], ii (eV 2)], ⟨3, 0, .nil, pcC⟩, [(.tup [.agg [.bsl kU (eV 3), ii (eV 4)], ii (rem0 (eV 0) (.int 0) (eV 2))], ⟨5, 0, .nil, [f3 111 (eV 3) (eV 0) (.int 1), eEq (eV 4) (pl (eV 1) (.int 1))]⟩)]⟩
/-- the reference's shuffle: 0 L, 1 used, 2 l -/
noncomputable def nQ : E := ln (eV 2)
noncomputable def pcL (L u : E) : List E := [.fn 131 L, eLe (ln L) (.int 300), eLe (.int 0) u, eLe (pl u (ln L)) (.int 300)]
noncomputable def pcQ : List E := pcL (eV 0) (eV 1) ++ [eLe (.int 1) nQ, eLe nQ (.int 60)]
noncomputable def dr (L u : E) : SV := .agg [.bsl kU L, ii u]
noncomputable def spQ : Pact := ⟨21, [dr (eV 0) (eV 1), .bsl kI (eV 2)], ⟨3, 0, .nil, pcQ⟩,
  [(.tup [dr (eV 5) (eV 6), .nslice 0 nQ (eV 4), ii (.int 0)], ⟨7, 1, heapL [fl (eV 3) nQ (eV 4)], [eLe (mi nQ (.int 1)) (ln (eV 0)), f101 (eV 3) (eV 2) (eV 0) (.int 0), f3 111 (eV 5) (eV 0) (mi nQ (.int 1)), eEq (eV 6) (pl (eV 1) (mi nQ (.int 1))), eLe nQ (eV 4), eEq (ln (eV 3)) nQ]⟩),
   (.tup [dr (eV 0) (eV 1), .nils, ii (.int 16)], ⟨3, 0, .nil, [eLt (ln (eV 0)) (mi nQ (.int 1))]⟩)]⟩
noncomputable def tQ : Tmpl := ⟨tmSlots 58 [(1, .bsl kI (eV 2)), (2, at0 0), (4, at0 1), (7, .nslice 2 nQ (eV 3)), (8, ii (eV 8))], ⟨12, 3, heapL [⟨true, .cells [.bsl kU (eV 10), ii (eV 11)] (.int 2) 50⟩, ⟨true, .cells [.nils, ii (.int 0)] (.int 2) 50⟩, fl (eV 9) nQ (eV 3)],
  pcQ ++ [eLe nQ (eV 3), eLe (mi nQ (.int 1)) (ln (eV 0)), eLe (.int 0) (eV 8), eLt (eV 8) nQ, f3 111 (eV 10) (eV 0) (mi (mi nQ (.int 1)) (eV 8)), eEq (eV 11) (pl (eV 1) (mi (mi nQ (.int 1)) (eV 8))), eEq (ln (eV 9)) nQ, f120 (eV 9) (eV 2) (eV 8) (eV 0) (.int 0) (mi (mi nQ (.int 1)) (eV 8))]⟩, eV 8⟩
noncomputable def annQ : List Ann := [⟨21, 0, [tQ], none⟩]
/-- two lists that are equal: both own; the second one given -/
noncomputable def pcE : List E := [f2 106 (eV 0) (eV 1), eEq (eV 2) (eV 3), eEq (eV 2) (ln (eV 0)), eEq (eV 3) (ln (eV 1)), eLe (eV 2) (.int 300), eLe (.int 0) (eV 2), eLe (.int 0) (eV 3), eLe (eV 2) (eV 4), eLe (eV 3) (eV 5)]
noncomputable def hE : T Blk := heapL [fl (eV 0) (eV 2) (eV 4), fl (eV 1) (eV 3) (eV 5)]
noncomputable def spE : Pact := ⟨22, [.nslice 0 (eV 2) (eV 4), .nslice 1 (eV 3) (eV 5)], ⟨6, 2, hE, pcE⟩, [(.bool (.bool true), ⟨6, 2, hE, []⟩)]⟩
noncomputable def tE : Tmpl := ⟨tmSlots 26 [(0, .nslice 0 (eV 2) (eV 4)), (1, .nslice 1 (eV 3) (eV 5)), (5, ii (eV 8))], ⟨9, 2, hE, pcE ++ [eLe (.int 0) (eV 8), eLe (eV 8) (eV 2)]⟩, mi (eV 2) (eV 8)⟩
noncomputable def pcEq : List E := [f2 106 (eV 0) (eV 1), eEq (eV 2) (ln (eV 0)), eEq (eV 2) (ln (eV 1)), eLe (eV 2) (.int 300), eLe (.int 0) (eV 2), eLe (eV 2) (eV 3)]
noncomputable def hB (k : CK) (t : TypeId) : T Blk := heapL [⟨true, .flat [k] (eV 0) (eV 2) (eV 3) t⟩]
noncomputable def spBx (f : FuncId) (k : CK) (t : TypeId) : Pact := ⟨f, [.nslice 0 (eV 2) (eV 3), .bsl [k] (eV 1)], ⟨4, 1, hB k t, pcEq⟩, [(.bool (.bool true), ⟨4, 1, hB k t, []⟩)]⟩
noncomputable def tBx (k : CK) (t : TypeId) : Tmpl := ⟨tmSlots 26 [(0, .nslice 0 (eV 2) (eV 3)), (1, .bsl [k] (eV 1)), (5, ii (eV 8))], ⟨9, 1, hB k t, pcEq ++ [eLe (.int 0) (eV 8), eLe (eV 8) (eV 2)]⟩, mi (eV 2) (eV 8)⟩
noncomputable def spB : Pact := spBx 22 (.int .i64) 3
noncomputable def annB : List Ann := [⟨22, 0, [tBx (.int .i64) 3], none⟩]
noncomputable def spW : Pact := spBx 25 (.int .u64) 22
noncomputable def annW : List Ann := [⟨25, 0, [tBx (.int .u64) 22], none⟩]
/-- few calls -/
noncomputable def kA : List CK := [.int .i64, .int .i64, .int .i64, .slc kI]
noncomputable def nF : E := .fn 9 (.pr (eV 0) (.int 4))
noncomputable def typA (e : E) : E := .fn 27 (.pr (mkList [.int 3, .int 3, .int 3, mkList [.int 3]]) e)
noncomputable def few : Pact := ⟨15, [.bsl kA (eV 0)], ⟨1, 0, .nil, [typA (eV 0)]⟩, [(.bool (eLe nF (.int 40)), ⟨1, 0, .nil, [f2 130 (eV 0) (.mn nF (.int 41))]⟩), (.bool (.bool false), ⟨1, 0, .nil, []⟩)]⟩
noncomputable def tfew : Tmpl := ⟨tmSlots 48 [(0, .bsl kA (eV 0)), (3, ii (eV 1))], ⟨2, 0, .nil, [typA (eV 0), eLe (.int 0) (eV 1), eLe (eV 1) nF, eLe (eV 1) (.int 41), f2 130 (eV 0) (eV 1)]⟩, mi nF (eV 1)⟩
noncomputable def annfew : List Ann := [⟨15, 0, [tfew], none⟩]
/-- the program's picks: 0 A, 1 nA, 2 cA, 3 u, 4 many, 5 bound -/
noncomputable def hP (u : E) : List Blk := [drw (eV 1) (eV 2) u, flU (eV 0) (eV 1) (eV 2)]
noncomputable def badP (m b : E) : E := f2 132 m b
noncomputable def f102 (x m b A u : E) : E := .fn 102 (.pr x (.pr m (.pr b (.pr A u))))
noncomputable def pcP : List E := pcD (eV 0) (eV 1) (eV 2) (eV 3) ++ [.fn 133 (eV 5)]
noncomputable def leftP : E := mi (eV 1) (eV 3)
noncomputable def spP : Pact := ⟨18, [at0 0, ii (eV 4), ii (eV 5)], ⟨6, 2, heapL (hP (eV 3)), pcP⟩,
  [(.tup [.nslice 2 (eV 7) (eV 8), ii (.int 0)], ⟨10, 3, heapL (hP (eV 9) ++ [fl (eV 6) (eV 7) (eV 8)]), [eLe (eV 4) leftP, .not (badP (eV 4) (eV 5)), eLe (.int 1) (eV 4), f102 (eV 6) (eV 4) (eV 5) (eV 0) (eV 3), eEq (eV 7) (eV 4), eEq (eV 7) (ln (eV 6)), eLe (eV 7) (eV 8), eEq (eV 9) (pl (eV 3) (eV 4))]⟩),
   (.tup [.nils, ii (.int 0)], ⟨7, 2, heapL (hP (eV 6)), [eEq (eV 4) (.int 0), .not (badP (eV 4) (eV 5)), eEq (eV 6) (eV 3)]⟩),
   (.tup [.nils, ii (.int 16)], ⟨6, 2, heapL (hP (eV 3)), [eLt leftP (eV 4), .not (badP (eV 4) (eV 5))]⟩),
   (.tup [.nils, ii (.int 2)], ⟨6, 2, heapL (hP (eV 3)), [badP (eV 4) (eV 5)]⟩)]⟩
noncomputable def okP : List E := pcP ++ [.not (badP (eV 4) (eV 5)), eLe (eV 4) leftP]
noncomputable def tR0 : Tmpl := ⟨tmSlots 72 [(0, at0 0), (1, ii (eV 4)), (2, ii (eV 5)), (10, .nils), (11, .nils), (36, ii (eV 5)), (37, ii (eV 10))], ⟨11, 2, heapL (hP (eV 3)), okP ++ [eEq (eV 10) (.int 0)]⟩, mi (eV 5) (eV 10)⟩
noncomputable def tR1 : Tmpl := ⟨tmSlots 72 [(0, at0 0), (1, ii (eV 4)), (2, ii (eV 5)), (10, .nslice 2 (eV 12) (eV 13)), (11, .nils), (36, ii (eV 5)), (37, ii (eV 10))], ⟨14, 3, heapL (hP (eV 3) ++ [fl (eV 11) (eV 12) (eV 13)]),
  okP ++ [eEq (eV 12) (eV 10), eLe (.int 1) (eV 10), eLe (eV 10) (eV 5), eEq (eV 12) (ln (eV 11)), eLe (eV 12) (eV 13), f2 103 (eV 11) (eV 10)]⟩, mi (eV 5) (eV 10)⟩
noncomputable def f121 (o r k : E) : E := .fn 121 (.pr o (.pr r (.pr k (.pr (eV 4) (.pr (eV 5) (.pr (eV 0) (eV 3)))))))
noncomputable def tP (r o : Bool) : Tmpl := ⟨tmSlots 72 [(0, at0 0), (10, if r then .nslice 3 (eV 21) (eV 22) else .nils), (11, if o then .nslice 4 (eV 24) (eV 25) else .nils), (45, ii (eV 4)), (46, ii (eV 26))],
  ⟨28, 5, heapL (hP (eV 27) ++ [gone, if r then fl (eV 20) (eV 21) (eV 22) else gone, if o then fl (eV 23) (eV 24) (eV 25) else gone]),
  okP ++ (if r then [eEq (eV 21) (ln (eV 20)), eLe (.int 1) (eV 21), eLe (eV 21) (.int 300), eLe (eV 21) (eV 22)] else []) ++ (if o then [eEq (eV 24) (ln (eV 23)), eEq (eV 24) (eV 26), eLe (.int 1) (eV 24), eLe (eV 24) (eV 25)] else [eEq (eV 26) (.int 0)]) ++
  [eLe (.int 0) (eV 26), eLe (eV 26) (eV 4), eEq (eV 27) (pl (eV 3) (eV 26)), eEq (eV 5) (pl (if r then eV 21 else .int 0) (eV 26)), f121 (if o then eV 23 else mkList []) (if r then eV 20 else mkList []) (eV 26)]⟩, mi (eV 4) (eV 26)⟩
noncomputable def annP : List Ann := [⟨18, 0, [tR0, tR1], none⟩, ⟨18, 2, [tP false false, tP true false, tP false true, tP true true], none⟩]
/-- the reference's picks: 0 L, 1 used, 2 many, 3 bound -/
noncomputable def pcR : List E := pcL (eV 0) (eV 1) ++ [.fn 133 (eV 3)]
noncomputable def spR : Pact := ⟨23, [dr (eV 0) (eV 1), ii (eV 2), ii (eV 3)], ⟨4, 0, .nil, pcR⟩,
  [(.tup [dr (eV 4) (eV 5), .nslice 0 (eV 7) (eV 8), ii (.int 0)], ⟨9, 1, heapL [fl (eV 6) (eV 7) (eV 8)], [eLe (eV 2) (ln (eV 0)), .not (badP (eV 2) (eV 3)), eLe (.int 1) (eV 2), f102 (eV 6) (eV 2) (eV 3) (eV 0) (.int 0), eEq (eV 7) (eV 2), eEq (eV 7) (ln (eV 6)), eLe (eV 7) (eV 8), f3 111 (eV 4) (eV 0) (eV 2), eEq (eV 5) (pl (eV 1) (eV 2))]⟩),
   (.tup [dr (eV 4) (eV 5), .nils, ii (.int 0)], ⟨6, 0, .nil, [eEq (eV 2) (.int 0), .not (badP (eV 2) (eV 3)), f3 111 (eV 4) (eV 0) (.int 0), eEq (eV 5) (eV 1)]⟩),
   (.tup [dr (eV 0) (eV 1), .nils, ii (.int 16)], ⟨4, 0, .nil, [eLt (ln (eV 0)) (eV 2), .not (badP (eV 2) (eV 3))]⟩),
   (.tup [dr (eV 0) (eV 1), .nils, ii (.int 2)], ⟨4, 0, .nil, [badP (eV 2) (eV 3)]⟩)]⟩
noncomputable def okR : List E := pcR ++ [.not (badP (eV 2) (eV 3)), eLe (eV 2) (ln (eV 0))]
noncomputable def f122 (pk i : E) : E := .fn 122 (.pr pk (.pr i (.pr (eV 2) (.pr (eV 3) (eV 0)))))
noncomputable def f123 (pk n j j0 : E) : E := f4 123 pk n j j0
noncomputable def hR (L u : E) : List Blk := [⟨true, .cells [.bsl kU L, ii u] (.int 2) 50⟩, ⟨true, .cells [.nils, ii (.int 0)] (.int 2) 50⟩]
noncomputable def flB (x n c : E) : Blk := ⟨true, .flat [.bool] x n c 4⟩
noncomputable def pcA : List E := okR ++ [eLe (.int 0) (eV 13), eLe (eV 13) (eV 2), eEq (ln (eV 10)) (eV 3), f122 (eV 10) (eV 13)]
noncomputable def tA : Tmpl := ⟨tmSlots 85 [(1, ii (eV 2)), (2, ii (eV 3)), (3, at0 0), (6, at0 1), (9, .nslice 2 (eV 3) (eV 3)), (10, ii (eV 13))], ⟨14, 3, heapL (hR (eV 11) (eV 12) ++ [flB (eV 10) (eV 3) (eV 3)]),
  pcA ++ [f3 111 (eV 11) (eV 0) (eV 13), eEq (eV 12) (pl (eV 1) (eV 13))]⟩, mi (eV 2) (eV 13)⟩
noncomputable def tB : Tmpl := ⟨tmSlots 85 [(1, ii (eV 2)), (2, ii (eV 3)), (3, at0 0), (6, at0 1), (9, .nslice 2 (eV 3) (eV 3)), (10, ii (eV 13)), (12, ii (eV 19)), (13, ii (eV 18))], ⟨20, 4, heapL (hR (eV 14) (eV 15) ++ [flB (eV 10) (eV 3) (eV 3), gone]),
  pcA ++ [eLt (eV 13) (eV 2), f3 111 (eV 14) (eV 0) (pl (eV 13) (.int 1)), eEq (eV 15) (pl (eV 1) (pl (eV 13) (.int 1))), eLe (.int 0) (eV 18), f123 (eV 10) (eV 18) (eV 19) (rem0 (eV 0) (eV 13) (mi (eV 3) (eV 13)))]⟩, mi (eV 3) (eV 18)⟩
noncomputable def tC (o : Bool) : Tmpl := ⟨tmSlots 85 [(2, ii (eV 3)), (3, at0 0), (6, at0 1), (9, .nslice 3 (eV 3) (eV 3)), (14, if o then .nslice 4 (eV 37) (eV 38) else .nils), (15, ii (eV 35))], ⟨39, 5, heapL (hR (eV 33) (eV 34) ++ [gone, flB (eV 32) (eV 3) (eV 3), if o then fl (eV 36) (eV 37) (eV 38) else gone]),
  okR ++ [eEq (ln (eV 32)) (eV 3), f122 (eV 32) (eV 2), f3 111 (eV 33) (eV 0) (eV 2), eEq (eV 34) (pl (eV 1) (eV 2)), eLe (.int 0) (eV 35), eLe (eV 35) (eV 3)] ++
  (if o then [eLe (.int 1) (eV 37), eLe (eV 37) (.int 300), eEq (eV 37) (ln (eV 36)), eLe (eV 37) (eV 38), f3 124 (eV 36) (eV 32) (eV 35)] else [f3 124 (mkList []) (eV 32) (eV 35)])⟩, mi (eV 3) (eV 35)⟩
noncomputable def annR : List Ann := [⟨23, 0, [tA], none⟩, ⟨23, 2, [tB], none⟩, ⟨23, 4, [tC false, tC true], none⟩]
/-- the law: 0 l, 1 acts -/
noncomputable def typU (e : E) : E := .fn 27 (.pr (mkList [.int 7]) e)
noncomputable def cell (k : Int) : E := .fn 1 (.pr (eV 1) (.fn 6 (.pr (.fn 8 (.pr (eV 15) (.int 4))) (.int k))))
noncomputable def what (k : Int) : E := eEq (cell 0) (.int k)
noncomputable def emptyL : E := eEq (ln (cell 3)) (.int 0)
noncomputable def nAct : E := .fn 9 (.pr (eV 1) (.int 4))
noncomputable def pc0 : List E := [typU (eV 0), typA (eV 1)]
noncomputable def args : List SV := [.bsl kU (eV 0), .bsl kA (eV 1)]
noncomputable def spS0 : Pact := ⟨10, [at0 0, .nils], ⟨4, 2, heapL [drw (eV 1) (eV 2) (eV 3), flU (eV 0) (eV 1) (eV 2)], pcD (eV 0) (eV 1) (eV 2) (eV 3)⟩, [(.tup [.nils, ii (.int 0)], ⟨4, 2, heapL [drw (eV 1) (eV 2) (eV 3), flU (eV 0) (eV 1) (eV 2)], []⟩)]⟩
noncomputable def spQ0 : Pact := ⟨21, [dr (eV 0) (eV 1), .bsl kI (eV 2)], ⟨3, 0, .nil, [eEq (ln (eV 2)) (.int 0)]⟩, [(.tup [dr (eV 0) (eV 1), .nils, ii (.int 0)], ⟨3, 0, .nil, []⟩)]⟩
noncomputable def natl : List Nat1 := [specNat few, specNat spE, specNat spB, specNat spW, specNat spC, specNat spS, specNat spQ, specNat spQ0, specNat spP, specNat spR, closedNat 8]
noncomputable def lnL : E := ln (eV 0)
noncomputable def drwB (b : Nat) (n c u : E) : Blk := ⟨true, .cells [.bool (.bool true), .nslice b n c, ii u] (.int 3) 60⟩
noncomputable def pcH : List E := [typU (eV 0), typA (eV 1), eLe lnL (.int 300), eLe nAct (.int 40), f2 130 (eV 1) (.mn nAct (.int 41))]
noncomputable def e0 : Tmpl := ⟨tmSlots 182 [(0, .bsl kU (eV 0)), (1, .bsl kA (eV 1)), (5, .nils), (6, at0 5), (48, ii (.int 0)), (49, ii (.int 0))], ⟨10, 6, heapL [gone, gone, gone, gone, flU (eV 7) (eV 8) (eV 9), drwB 4 (eV 8) (eV 9) (.int 0)],
  pcH ++ [eEq lnL (.int 0), eEq (eV 8) (.int 0), eEq (eV 8) (ln (eV 7)), eLe (eV 8) (eV 9)]⟩, .int 0⟩
noncomputable def e1 : Tmpl := ⟨tmSlots 182 [(0, .bsl kU (eV 0)), (1, .bsl kA (eV 1)), (5, .nslice 3 lnL (eV 4)), (6, at0 5), (48, ii lnL), (49, ii (eV 5))], ⟨10, 6, heapL [gone, gone, gone, flU (eV 3) lnL (eV 4), flU (eV 6) lnL lnL, drwB 4 lnL lnL (.int 0)],
  pcH ++ [eEq (ln (eV 3)) lnL, eLe lnL (eV 4), eLe (.int 0) (eV 5), eLe (eV 5) lnL, f3 111 (eV 0) (eV 6) (.int 0), .fn 131 (eV 6), eEq (ln (eV 6)) lnL]⟩, mi lnL (eV 5)⟩
noncomputable def refB (L u : E) : Blk := ⟨true, .cells [.bsl kU L, ii u] (.int 2) 50⟩
noncomputable def pcG (A n c u L i : E) : List E := pcH ++ pcD A n c u ++ [f3 111 L A u, eLe (.int 0) i, eLe i nAct]
noncomputable def tG : Tmpl := ⟨tmSlots 182 [(6, at0 7), (9, at0 9), (61, .bsl kA (eV 1)), (62, ii nAct), (63, ii (eV 15))], ⟨17, 10, heapL [gone, gone, gone, gone, gone, gone, gone, drwB 8 (eV 11) (eV 12) (eV 13), flU (eV 10) (eV 11) (eV 12), refB (eV 14) (eV 16)],
  pcG (eV 10) (eV 11) (eV 12) (eV 13) (eV 14) (eV 15) ++ [eEq (eV 16) (eV 13)]⟩, mi nAct (eV 15)⟩
noncomputable def tH : Tmpl := ⟨tmSlots 182 [(6, at0 30), (9, at0 9), (23, .nslice 31 (eV 44) (eV 45)), (61, .bsl kA (eV 1)), (62, ii nAct), (63, ii (eV 15)), (169, ii (eV 44)), (170, ii (eV 46))],
  ⟨48, 32, heapL (List.replicate 8 gone ++ [flU (eV 10) (eV 11) (eV 12), refB (eV 42) (eV 47)] ++ List.replicate 20 gone ++ [drwB 8 (eV 11) (eV 12) (eV 41), flU (eV 43) (eV 44) (eV 45)]),
  pcG (eV 10) (eV 11) (eV 12) (eV 41) (eV 42) (eV 15) ++ [eEq (eV 47) (eV 41), eLt (eV 15) nAct, eEq (eV 44) (ln (eV 43)), eLe (.int 0) (eV 46), eLe (eV 46) (eV 44), eLe (eV 44) (eV 45), eLe (eV 44) (.int 300)]⟩, mi (eV 44) (eV 46)⟩
noncomputable def ann0 : Ann := ⟨6, 0, [e0, e1], none⟩
noncomputable def annH : Ann := ⟨6, 5, [tH], none⟩
noncomputable def annG (y : Option LoopX) : Ann := ⟨6, 2, [tG], y⟩
noncomputable def yG : LoopX := ⟨10, 7, [⟨.exit 2, tmSlots 182 [], ⟨10, 7, .nil, []⟩⟩]⟩

noncomputable def natl0 : List Nat1 := nats
theorem natl0_ok : ∀ x ∈ natl0, NatOk Try.prog x := nats_ok

set_option maxRecDepth 100000 in
theorem reckoned0 : withTab Try.prog (fun tb => checkAll outTrue (run Try.prog (tb.plus [] [] natl0) 3000 (.call 8 []) .nil (varSt 0 []) SX.one)) = true := by kernel_rfl
noncomputable def natl1 : List Nat1 := closedNat 8 :: natl0
theorem natl1_ok : ∀ x ∈ natl1, NatOk Try.prog x := by
  intro x hx
  rcases List.mem_cons.1 hx with rfl | hx
  · exact closed_of_check good (facts := []) all_nil (anns := []) (plainAnns_ok [] rfl) (nats := natl0) natl0_ok reckoned0
  · exact natl0_ok x hx

namespace p0
noncomputable def f0 : E := (.fn 130 (.pr Q0 (.int 0)))
theorem fact0 (ρ : Env) : E.B ρ f0 = true := by
  unfold f0
  exact t130_zero (by simp only [sm_I_int]; omega)
noncomputable def f1 : E := (.imp Q5 (.not (.cmp .lss Q6 (.int 0))))
theorem fact1 (ρ : Env) : E.B ρ f1 = true := by
  unfold f1
  rw [sm_B_imp]
  simp only [sm_B_and]
  rintro ⟨p0, p1⟩
  try simp only [smA, smW] at *
  obtain ⟨a1, ea1, qa1⟩ := cs_i64 ((E.I ρ Q1) + (1))
  try simp only [ea1] at *
  omega
noncomputable def f2 : E := (.imp (.and Q7 (.and (.not Q8) (.and Q10 Q3))) (.fn 130 (.pr Q0 Q11)))
theorem fact2 (ρ : Env) : E.B ρ f2 = true := by
  unfold f2
  rw [sm_B_imp]
  simp only [sm_B_and]
  rintro ⟨p0, p1, p2, p3⟩
  have g0 : E.I ρ Q11 = E.I ρ Q1 := by
    try simp only [smA, smW] at *
    omega
  exact t130_eq p2 g0
noncomputable def f3 : E := (.imp (.and (.not Q7) (.and Q10 (.and Q3 (.and (.not (.cmp .lss (.fn 9 (.pr Q0 (.int 4))) Q1)) Q4)))) (.fn 130 (.pr Q0 Q11)))
theorem fact3 (ρ : Env) : E.B ρ f3 = true := by
  unfold f3
  rw [sm_B_imp]
  simp only [sm_B_and]
  rintro ⟨p0, p1, p2, p3, p4⟩
  have g0 : E.I ρ Q11 = E.I ρ Q1 := by
    try simp only [smA, smW] at *
    omega
  exact t130_eq p1 g0
noncomputable def f4 : E := (.imp Q12 (.not (.cmp .lss (.fn 9 (.pr Q0 (.int 4))) Q6)))
theorem fact4 (ρ : Env) : E.B ρ f4 = true := by
  unfold f4
  rw [sm_B_imp]
  simp only [sm_B_and]
  rintro ⟨p0, p1, p2⟩
  try simp only [smA, smW] at *
  obtain ⟨a2, ea2, qa2⟩ := cs_i64 ((E.I ρ Q1) + (1))
  try simp only [ea2] at *
  omega
noncomputable def f5 : E := (.imp (.and Q8 Q4) (.not (.cmp .lss (.int 41) Q6)))
theorem fact5 (ρ : Env) : E.B ρ f5 = true := by
  unfold f5
  rw [sm_B_imp]
  simp only [sm_B_and]
  rintro ⟨p0, p1⟩
  try simp only [smA, smW] at *
  obtain ⟨a1, ea1, qa1⟩ := cs_i64 ((E.I ρ Q1) + (1))
  try simp only [ea1] at *
  omega
noncomputable def f6 : E := (.imp (.and Q7 (.and Q8 (.and (.cmp .lss (.int 65536) (.fn 1 (.pr Q0 (.fn 6 (.pr (.fn 8 (.pr Q1 (.int 4))) (.int 1)))))) Q16))) Q17)
theorem fact6 (ρ : Env) : E.B ρ f6 = true := by
  unfold f6
  rw [sm_B_imp]
  simp only [sm_B_and]
  rintro ⟨p0, p1, p2, p3, p4, p5⟩
  obtain ⟨g0, g1, g2, g3⟩ : (0) ≤ E.I ρ Q1 ∧ E.I ρ Q1 < E.I ρ (.fn 9 (.pr Q0 (.int 4))) ∧ E.I ρ Q6 = E.I ρ (.fn 6 (.pr Q1 (.int 1))) ∧ E.I ρ (.fn 0 (.fn 1 (.pr Q0 (.fn 6 (.pr (.fn 8 (.pr Q1 (.int 4))) (.int 3)))))) ≤ (60) := by
    try simp only [smA, smW] at *
    have n4 := fn0_nn (ρ := ρ) (.fn 1 (.pr Q0 (.fn 6 (.pr (.fn 8 (.pr Q1 (.int 4))) (.int 3)))))
    obtain ⟨a4, ea4, qa4⟩ := cs_i64 ((E.I ρ Q1) + (1))
    try simp only [ea4] at *
    omega
  exact t130_step p4 (by (try simp only [sm_I_int]); omega) g1 g2 (by (try simp only [sm_I_int]); omega) (fun h => by rw [sm_B_lss] at p2; have := h.2.2; simp only [sm_I_int] at *; omega)
noncomputable def f7 : E := (.imp (.and Q7 (.and Q8 (.and Q14 (.and (.not (.cmp .lss (.int 300) (.fn 1 (.pr Q0 (.fn 6 (.pr (.fn 8 (.pr Q1 (.int 4))) (.int 1))))))) Q15)))) Q17)
theorem fact7 (ρ : Env) : E.B ρ f7 = true := by
  unfold f7
  rw [sm_B_imp]
  simp only [sm_B_and]
  rintro ⟨p0, p1, p2, p3, p4, p5⟩
  obtain ⟨g0, g1, g2, g3⟩ : (0) ≤ E.I ρ Q1 ∧ E.I ρ Q1 < E.I ρ (.fn 9 (.pr Q0 (.int 4))) ∧ E.I ρ Q6 = E.I ρ (.fn 6 (.pr Q1 (.int 1))) ∧ E.I ρ (.fn 0 (.fn 1 (.pr Q0 (.fn 6 (.pr (.fn 8 (.pr Q1 (.int 4))) (.int 3)))))) ≤ (60) := by
    try simp only [smA, smW] at *
    have n3 := fn0_nn (ρ := ρ) (.fn 1 (.pr Q0 (.fn 6 (.pr (.fn 8 (.pr Q1 (.int 4))) (.int 3)))))
    obtain ⟨a4, ea4, qa4⟩ := cs_i64 ((E.I ρ Q1) + (1))
    try simp only [ea4] at *
    omega
  exact t130_step p4 (by (try simp only [sm_I_int]); omega) g1 g2 (by (try simp only [sm_I_int]); omega) (fun h => by rw [sm_B_not, sm_B_lss] at p3; exact p3 h.2.1)
noncomputable def f8 : E := (.imp (.and Q7 (.and Q8 (.and (.not (.cmp .eql (.fn 1 (.pr Q0 (.fn 6 (.pr (.fn 8 (.pr Q1 (.int 4))) (.int 0))))) (.int 2))) Q16))) Q17)
theorem fact8 (ρ : Env) : E.B ρ f8 = true := by
  unfold f8
  rw [sm_B_imp]
  simp only [sm_B_and]
  rintro ⟨p0, p1, p2, p3, p4, p5⟩
  obtain ⟨g0, g1, g2, g3⟩ : (0) ≤ E.I ρ Q1 ∧ E.I ρ Q1 < E.I ρ (.fn 9 (.pr Q0 (.int 4))) ∧ E.I ρ Q6 = E.I ρ (.fn 6 (.pr Q1 (.int 1))) ∧ E.I ρ (.fn 0 (.fn 1 (.pr Q0 (.fn 6 (.pr (.fn 8 (.pr Q1 (.int 4))) (.int 3)))))) ≤ (60) := by
    try simp only [smA, smW] at *
    have n4 := fn0_nn (ρ := ρ) (.fn 1 (.pr Q0 (.fn 6 (.pr (.fn 8 (.pr Q1 (.int 4))) (.int 3)))))
    obtain ⟨a4, ea4, qa4⟩ := cs_i64 ((E.I ρ Q1) + (1))
    try simp only [ea4] at *
    omega
  exact t130_step p4 (by (try simp only [sm_I_int]); omega) g1 g2 (by (try simp only [sm_I_int]); omega) (fun h => by rw [sm_B_not, sm_B_eql] at p2; exact p2 h.1)
noncomputable def f9 : E := (.imp Q5 (.cmp .lss (.fn 7 (.pr (.fn 9 (.pr Q0 (.int 4))) Q6)) (.fn 7 (.pr (.fn 9 (.pr Q0 (.int 4))) Q1))))
theorem fact9 (ρ : Env) : E.B ρ f9 = true := by
  unfold f9
  rw [sm_B_imp]
  simp only [sm_B_and]
  rintro ⟨p0, p1⟩
  try simp only [smA, smW] at *
  obtain ⟨a2, ea2, qa2⟩ := cs_i64 ((E.I ρ Q1) + (1))
  try simp only [ea2] at *
  omega
noncomputable def f10 : E := (.imp Q12 (.not (.cmp .lss (.fn 7 (.pr (.fn 9 (.pr Q0 (.int 4))) Q6)) (.int 0))))
theorem fact10 (ρ : Env) : E.B ρ f10 = true := by
  unfold f10
  rw [sm_B_imp]
  simp only [sm_B_and]
  rintro ⟨p0, p1, p2⟩
  try simp only [smA, smW] at *
  obtain ⟨a2, ea2, qa2⟩ := cs_i64 ((E.I ρ Q1) + (1))
  try simp only [ea2] at *
  omega
noncomputable def facts : List E := [f0, f1, f2, f3, f4, f5, f6, f7, f8, f9, f10]
theorem facts_ok : ∀ e ∈ facts, ∀ ρ : Env, E.B ρ e = true := (all_cons fact0 (all_cons fact1 (all_cons fact2 (all_cons fact3 (all_cons fact4 (all_cons fact5 (all_cons fact6 (all_cons fact7 (all_cons fact8 (all_cons fact9 (all_cons fact10 all_nil)))))))))))
end p0
set_option maxRecDepth 100000 in
theorem spec0_0 : NatOk Try.prog (specNat (few)) :=
  spec_of_check good (facts := p0.facts) p0.facts_ok (anns := annfew) (plainAnns_ok _ (by kernel_rfl)) (nats := natl1) natl1_ok (n := 3000) (by kernel_rfl)
noncomputable def natl2 : List Nat1 := specNat (few) :: natl1
theorem natl2_ok : ∀ x ∈ natl2, NatOk Try.prog x := by
  intro x hx
  rcases List.mem_cons.1 hx with rfl | hx
  · exact spec0_0
  exact natl1_ok x hx

namespace p1
noncomputable def f0 : E := Q24
theorem fact0 (ρ : Env) : E.B ρ f0 = true := by
  unfold f0
  rw [sm_B_imp]
  simp only [sm_B_and]
  rintro ⟨p0, p1, p2⟩
  try simp only [smA, smW] at *
  have n3 := fn0_nn (ρ := ρ) Q1
  have n4 := fn0_nn (ρ := ρ) Q0
  omega
noncomputable def f1 : E := Q27
theorem fact1 (ρ : Env) : E.B ρ f1 = true := by
  unfold f1
  rw [sm_B_imp]
  intro p0
  rw [sm_B_eql]
  exact t106_nth p0
noncomputable def f2 : E := Q43
theorem fact2 (ρ : Env) : E.B ρ f2 = true := by
  unfold f2
  rw [sm_B_imp]
  simp only [sm_B_and]
  rintro ⟨p0, p1, p2, p3, p4, p5⟩
  try simp only [smA, smW] at *
  have n3 := fn0_nn (ρ := ρ) Q1
  have n4 := fn0_nn (ρ := ρ) Q0
  obtain ⟨a4, ea4, qa4⟩ := cs_i64 ((E.I ρ Q18) + (1))
  try simp only [ea4] at *
  omega
noncomputable def f3 : E := Q46
theorem fact3 (ρ : Env) : E.B ρ f3 = true := by
  unfold f3
  rw [sm_B_imp]
  simp only [sm_B_and]
  rintro ⟨p0, p1, p2, p3, p4, p5⟩
  try simp only [smA, smW] at *
  have n3 := fn0_nn (ρ := ρ) Q1
  have n4 := fn0_nn (ρ := ρ) Q0
  obtain ⟨a4, ea4, qa4⟩ := cs_i64 ((E.I ρ Q18) + (1))
  try simp only [ea4] at *
  omega
noncomputable def f4 : E := Q48
theorem fact4 (ρ : Env) : E.B ρ f4 = true := by
  unfold f4
  rw [sm_B_imp]
  simp only [sm_B_and]
  rintro ⟨p0, p1, p2, p3, p4, p5⟩
  try simp only [smA, smW] at *
  have n3 := fn0_nn (ρ := ρ) Q1
  have n4 := fn0_nn (ρ := ρ) Q0
  obtain ⟨a4, ea4, qa4⟩ := cs_i64 ((E.I ρ Q18) + (1))
  try simp only [ea4] at *
  omega
noncomputable def f5 : E := Q51
theorem fact5 (ρ : Env) : E.B ρ f5 = true := by
  unfold f5
  rw [sm_B_imp]
  simp only [sm_B_and]
  rintro ⟨p0, p1, p2, p3, p4, p5⟩
  try simp only [smA, smW] at *
  have n3 := fn0_nn (ρ := ρ) Q1
  have n4 := fn0_nn (ρ := ρ) Q0
  obtain ⟨a4, ea4, qa4⟩ := cs_i64 ((E.I ρ Q18) + (1))
  try simp only [ea4] at *
  omega
noncomputable def facts : List E := [f0, f1, f2, f3, f4, f5]
theorem facts_ok : ∀ e ∈ facts, ∀ ρ : Env, E.B ρ e = true := (all_cons fact0 (all_cons fact1 (all_cons fact2 (all_cons fact3 (all_cons fact4 (all_cons fact5 all_nil))))))
end p1
set_option maxRecDepth 100000 in
theorem spec1_0 : NatOk Try.prog (specNat (spB)) :=
  spec_of_check good (facts := p1.facts) p1.facts_ok (anns := annB) (plainAnns_ok _ (by kernel_rfl)) (nats := natl2) natl2_ok (n := 3000) (by kernel_rfl)
noncomputable def natl3 : List Nat1 := specNat (spB) :: natl2
theorem natl3_ok : ∀ x ∈ natl3, NatOk Try.prog x := by
  intro x hx
  rcases List.mem_cons.1 hx with rfl | hx
  · exact spec1_0
  exact natl2_ok x hx

namespace p2
noncomputable def f0 : E := (.imp (.and Q20 (.and (.cmp .eql Q52 (.fn 0 Q1)) (.and Q22 (.cmp .eql Q19 Q52)))) (.cmp .lss Q18 Q52))
theorem fact0 (ρ : Env) : E.B ρ f0 = true := by
  unfold f0
  rw [sm_B_imp]
  simp only [sm_B_and]
  rintro ⟨p0, p1, p2, p3⟩
  try simp only [smA, smW] at *
  have n4 := fn0_nn (ρ := ρ) Q1
  have n5 := fn0_nn (ρ := ρ) Q0
  omega
noncomputable def f1 : E := Q27
theorem fact1 (ρ : Env) : E.B ρ f1 = true := by
  unfold f1
  rw [sm_B_imp]
  intro p0
  rw [sm_B_eql]
  exact t106_nth p0
noncomputable def f2 : E := (.imp Q56 Q42)
theorem fact2 (ρ : Env) : E.B ρ f2 = true := by
  unfold f2
  rw [sm_B_imp]
  simp only [sm_B_and]
  rintro ⟨p0, p1, p2, p3, p4⟩
  try simp only [smA, smW] at *
  have n3 := fn0_nn (ρ := ρ) Q0
  obtain ⟨a3, ea3, qa3⟩ := cs_i64 ((E.I ρ Q18) + (1))
  try simp only [ea3] at *
  omega
noncomputable def f3 : E := (.imp Q57 Q45)
theorem fact3 (ρ : Env) : E.B ρ f3 = true := by
  unfold f3
  rw [sm_B_imp]
  simp only [sm_B_and]
  rintro ⟨p0, p1, p2, p3, p4⟩
  try simp only [smA, smW] at *
  have n3 := fn0_nn (ρ := ρ) Q0
  obtain ⟨a3, ea3, qa3⟩ := cs_i64 ((E.I ρ Q18) + (1))
  try simp only [ea3] at *
  omega
noncomputable def f4 : E := (.imp Q56 Q47)
theorem fact4 (ρ : Env) : E.B ρ f4 = true := by
  unfold f4
  rw [sm_B_imp]
  simp only [sm_B_and]
  rintro ⟨p0, p1, p2, p3, p4⟩
  try simp only [smA, smW] at *
  have n3 := fn0_nn (ρ := ρ) Q0
  obtain ⟨a3, ea3, qa3⟩ := cs_i64 ((E.I ρ Q18) + (1))
  try simp only [ea3] at *
  omega
noncomputable def f5 : E := (.imp Q57 Q50)
theorem fact5 (ρ : Env) : E.B ρ f5 = true := by
  unfold f5
  rw [sm_B_imp]
  simp only [sm_B_and]
  rintro ⟨p0, p1, p2, p3, p4⟩
  try simp only [smA, smW] at *
  have n3 := fn0_nn (ρ := ρ) Q0
  obtain ⟨a3, ea3, qa3⟩ := cs_i64 ((E.I ρ Q18) + (1))
  try simp only [ea3] at *
  omega
noncomputable def facts : List E := [f0, f1, f2, f3, f4, f5]
theorem facts_ok : ∀ e ∈ facts, ∀ ρ : Env, E.B ρ e = true := (all_cons fact0 (all_cons fact1 (all_cons fact2 (all_cons fact3 (all_cons fact4 (all_cons fact5 all_nil))))))
end p2
set_option maxRecDepth 100000 in
theorem spec2_0 : NatOk Try.prog (specNat (spE)) :=
  spec_of_check good (facts := p2.facts) p2.facts_ok (anns := [⟨22, 0, [tE], none⟩]) (plainAnns_ok _ (by kernel_rfl)) (nats := natl3) natl3_ok (n := 3000) (by kernel_rfl)
noncomputable def natl4 : List Nat1 := specNat (spE) :: natl3
theorem natl4_ok : ∀ x ∈ natl4, NatOk Try.prog x := by
  intro x hx
  rcases List.mem_cons.1 hx with rfl | hx
  · exact spec2_0
  exact natl3_ok x hx

namespace p3
noncomputable def f0 : E := Q24
theorem fact0 (ρ : Env) : E.B ρ f0 = true := by
  unfold f0
  rw [sm_B_imp]
  simp only [sm_B_and]
  rintro ⟨p0, p1, p2⟩
  try simp only [smA, smW] at *
  have n3 := fn0_nn (ρ := ρ) Q1
  have n4 := fn0_nn (ρ := ρ) Q0
  omega
noncomputable def f1 : E := Q27
theorem fact1 (ρ : Env) : E.B ρ f1 = true := by
  unfold f1
  rw [sm_B_imp]
  intro p0
  rw [sm_B_eql]
  exact t106_nth p0
noncomputable def f2 : E := Q43
theorem fact2 (ρ : Env) : E.B ρ f2 = true := by
  unfold f2
  rw [sm_B_imp]
  simp only [sm_B_and]
  rintro ⟨p0, p1, p2, p3, p4, p5⟩
  try simp only [smA, smW] at *
  have n3 := fn0_nn (ρ := ρ) Q1
  have n4 := fn0_nn (ρ := ρ) Q0
  obtain ⟨a4, ea4, qa4⟩ := cs_i64 ((E.I ρ Q18) + (1))
  try simp only [ea4] at *
  omega
noncomputable def f3 : E := Q46
theorem fact3 (ρ : Env) : E.B ρ f3 = true := by
  unfold f3
  rw [sm_B_imp]
  simp only [sm_B_and]
  rintro ⟨p0, p1, p2, p3, p4, p5⟩
  try simp only [smA, smW] at *
  have n3 := fn0_nn (ρ := ρ) Q1
  have n4 := fn0_nn (ρ := ρ) Q0
  obtain ⟨a4, ea4, qa4⟩ := cs_i64 ((E.I ρ Q18) + (1))
  try simp only [ea4] at *
  omega
noncomputable def f4 : E := Q48
theorem fact4 (ρ : Env) : E.B ρ f4 = true := by
  unfold f4
  rw [sm_B_imp]
  simp only [sm_B_and]
  rintro ⟨p0, p1, p2, p3, p4, p5⟩
  try simp only [smA, smW] at *
  have n3 := fn0_nn (ρ := ρ) Q1
  have n4 := fn0_nn (ρ := ρ) Q0
  obtain ⟨a4, ea4, qa4⟩ := cs_i64 ((E.I ρ Q18) + (1))
  try simp only [ea4] at *
  omega
noncomputable def f5 : E := Q51
theorem fact5 (ρ : Env) : E.B ρ f5 = true := by
  unfold f5
  rw [sm_B_imp]
  simp only [sm_B_and]
  rintro ⟨p0, p1, p2, p3, p4, p5⟩
  try simp only [smA, smW] at *
  have n3 := fn0_nn (ρ := ρ) Q1
  have n4 := fn0_nn (ρ := ρ) Q0
  obtain ⟨a4, ea4, qa4⟩ := cs_i64 ((E.I ρ Q18) + (1))
  try simp only [ea4] at *
  omega
noncomputable def facts : List E := [f0, f1, f2, f3, f4, f5]
theorem facts_ok : ∀ e ∈ facts, ∀ ρ : Env, E.B ρ e = true := (all_cons fact0 (all_cons fact1 (all_cons fact2 (all_cons fact3 (all_cons fact4 (all_cons fact5 all_nil))))))
end p3
set_option maxRecDepth 100000 in
theorem spec3_0 : NatOk Try.prog (specNat (spW)) :=
  spec_of_check good (facts := p3.facts) p3.facts_ok (anns := annW) (plainAnns_ok _ (by kernel_rfl)) (nats := natl4) natl4_ok (n := 3000) (by kernel_rfl)
noncomputable def natl5 : List Nat1 := specNat (spW) :: natl4
theorem natl5_ok : ∀ x ∈ natl5, NatOk Try.prog x := by
  intro x hx
  rcases List.mem_cons.1 hx with rfl | hx
  · exact spec3_0
  exact natl4_ok x hx

namespace p4
noncomputable def f0 : E := (.imp (.and Q58 (.not (.cmp .lss Q19 (.int 1)))) (.not (.cmp .eql (.wr .u64 Q19) (.int 0))))
theorem fact0 (ρ : Env) : E.B ρ f0 = true := by
  unfold f0
  rw [sm_B_imp]
  simp only [sm_B_and]
  rintro ⟨p0, p1⟩
  try simp only [smA, smW] at *
  obtain ⟨a1, ea1, qa1⟩ := cs_u64 (E.I ρ Q19)
  try simp only [ea1] at *
  omega
noncomputable def f1 : E := (.imp Q58 (.fn 111 (.pr (.fn 24 (.pr (.pr (.int 1) Q0) (.pr (.int 1) (.pr (.fn 0 Q0) (.fn 22 Q0))))) (.pr Q0 (.int 1)))))
theorem fact1 (ρ : Env) : E.B ρ f1 = true := by
  unfold f1
  rw [sm_B_imp]
  intro p0
  exact t111_cut
noncomputable def f2 : E := (.imp (.and Q60 Q4) (.cmp .eql Q6 (.fn 6 (.pr Q1 (.int 1)))))
theorem fact2 (ρ : Env) : E.B ρ f2 = true := by
  unfold f2
  rw [sm_B_imp]
  simp only [sm_B_and]
  rintro ⟨p0, p1⟩
  try simp only [smA, smW] at *
  obtain ⟨a1, ea1, qa1⟩ := cs_i64 ((E.I ρ Q1) + (1))
  try simp only [ea1] at *
  omega
noncomputable def facts : List E := [f0, f1, f2]
theorem facts_ok : ∀ e ∈ facts, ∀ ρ : Env, E.B ρ e = true := (all_cons fact0 (all_cons fact1 (all_cons fact2 all_nil)))
end p4
set_option maxRecDepth 100000 in
theorem spec4_0 : NatOk Try.prog (specNat (spC)) :=
  spec_of_check good (facts := p4.facts) p4.facts_ok (anns := []) (plainAnns_ok _ (by kernel_rfl)) (nats := natl5) natl5_ok (n := 3000) (by kernel_rfl)
noncomputable def natl6 : List Nat1 := specNat (spC) :: natl5
theorem natl6_ok : ∀ x ∈ natl6, NatOk Try.prog x := by
  intro x hx
  rcases List.mem_cons.1 hx with rfl | hx
  · exact spec4_0
  exact natl5_ok x hx

namespace p5
noncomputable def f0 : E := (.imp (.and (.not Q63) (.and Q65 (.and Q67 (.and Q69 (.and Q70 Q71))))) Q73)
theorem fact0 (ρ : Env) : E.B ρ f0 = true := by
  unfold f0
  rw [sm_B_imp]
  simp only [sm_B_and]
  rintro ⟨p0, p1, p2, p3, p4, p5⟩
  try simp only [smA, smW] at *
  have n4 := fn0_nn (ρ := ρ) Q68
  have n5 := fn0_nn (ρ := ρ) Q0
  obtain ⟨a5, ea5, qa5⟩ := cs_i64 ((E.I ρ Q1) - (E.I ρ Q52))
  try simp only [ea5] at *
  obtain ⟨a6, ea6, qa6⟩ := cs_i64 ((E.I ρ Q61) - (1))
  try simp only [ea6] at *
  omega
noncomputable def f1 : E := (.imp (.and Q63 (.and Q65 (.and Q67 Q78))) Q72)
theorem fact1 (ρ : Env) : E.B ρ f1 = true := by
  unfold f1
  rw [sm_B_imp]
  simp only [sm_B_and]
  rintro ⟨p0, p1, p2, p3, p4, p5, p6, p7, p8⟩
  try simp only [smA, smW] at *
  have n4 := fn0_nn (ρ := ρ) Q68
  have n5 := fn0_nn (ρ := ρ) Q0
  obtain ⟨a5, ea5, qa5⟩ := cs_i64 ((E.I ρ Q1) - (E.I ρ Q52))
  try simp only [ea5] at *
  obtain ⟨a6, ea6, qa6⟩ := cs_i64 ((E.I ρ Q61) - (1))
  try simp only [ea6] at *
  omega
noncomputable def f2 : E := (.imp Q79 (.not (.cmp .lss Q62 (.int 0))))
theorem fact2 (ρ : Env) : E.B ρ f2 = true := by
  unfold f2
  rw [sm_B_imp]
  simp only [sm_B_and]
  rintro ⟨p0, p1, p2⟩
  try simp only [smA, smW] at *
  have n2 := fn0_nn (ρ := ρ) Q68
  obtain ⟨a2, ea2, qa2⟩ := cs_i64 ((E.I ρ Q61) - (1))
  try simp only [ea2] at *
  omega
noncomputable def f3 : E := (.imp Q79 (.cmp .lss Q62 Q61))
theorem fact3 (ρ : Env) : E.B ρ f3 = true := by
  unfold f3
  rw [sm_B_imp]
  simp only [sm_B_and]
  rintro ⟨p0, p1, p2⟩
  try simp only [smA, smW] at *
  have n2 := fn0_nn (ρ := ρ) Q68
  obtain ⟨a2, ea2, qa2⟩ := cs_i64 ((E.I ρ Q61) - (1))
  try simp only [ea2] at *
  omega
noncomputable def f4 : E := (.imp Q79 (.cmp .eql (.fn 6 (.pr Q52 Q62)) (.fn 6 (.pr Q52 (.fn 7 (.pr Q61 (.int 1)))))))
theorem fact4 (ρ : Env) : E.B ρ f4 = true := by
  unfold f4
  rw [sm_B_imp]
  simp only [sm_B_and]
  rintro ⟨p0, p1, p2⟩
  try simp only [smA, smW] at *
  have n2 := fn0_nn (ρ := ρ) Q68
  obtain ⟨a3, ea3, qa3⟩ := cs_i64 ((E.I ρ Q61) - (1))
  try simp only [ea3] at *
  omega
noncomputable def f5 : E := (.imp Q79 (.fn 120 (.pr Q68 (.pr Q68 (.pr Q62 (.pr Q0 (.pr Q52 Q52)))))))
theorem fact5 (ρ : Env) : E.B ρ f5 = true := by
  unfold f5
  rw [sm_B_imp]
  simp only [sm_B_and]
  rintro ⟨p0, p1, p2⟩
  have g0 : E.I ρ Q62 = E.I ρ (.fn 7 (.pr (.fn 0 Q68) (.int 1))) := by
    try simp only [smA, smW] at *
    have n2 := fn0_nn (ρ := ρ) Q68
    obtain ⟨a2, ea2, qa2⟩ := cs_i64 ((E.I ρ Q61) - (1))
    try simp only [ea2] at *
    omega
  have g1 : E.I ρ Q52 = E.I ρ Q52 := rfl
  exact t120_start g0 g1
noncomputable def f6 : E := (.imp (.and Q73 (.and Q80 (.and Q82 (.and Q84 Q71)))) (.cmp .lss Q83 Q1))
theorem fact6 (ρ : Env) : E.B ρ f6 = true := by
  unfold f6
  rw [sm_B_imp]
  simp only [sm_B_and]
  rintro ⟨p0, p1, p2, p3, p4⟩
  try simp only [smA, smW] at *
  have n5 := fn0_nn (ρ := ρ) Q81
  have n7 := fn0_nn (ρ := ρ) Q0
  omega
noncomputable def f7 : E := (.imp (.and (.not Q80) (.and Q87 Q31)) (.fn 101 (.pr Q81 (.pr Q68 (.pr Q0 Q52)))))
theorem fact7 (ρ : Env) : E.B ρ f7 = true := by
  unfold f7
  rw [sm_B_imp]
  simp only [sm_B_and]
  rintro ⟨p0, p1, p2⟩
  have g0 : E.I ρ Q18 ≤ (0) := by
    try simp only [smA, smW] at *
    omega
  exact t120_end p1 (by (try simp only [sm_I_int]); omega)
noncomputable def f8 : E := (.imp Q90 (.not (.cmp .eql Q91 (.int 0))))
theorem fact8 (ρ : Env) : E.B ρ f8 = true := by
  unfold f8
  rw [sm_B_imp]
  simp only [sm_B_and]
  rintro ⟨p0, p1, p2, p3, p4, p5⟩
  try simp only [smA, smW] at *
  have n3 := fn0_nn (ρ := ρ) Q81
  have n4 := fn0_nn (ρ := ρ) Q68
  obtain ⟨a4, ea4, qa4⟩ := cs_i64 ((E.I ρ Q18) + (1))
  try simp only [ea4] at *
  obtain ⟨a5, ea5, qa5⟩ := cs_u64 a4
  try simp only [ea5] at *
  omega
noncomputable def f9 : E := (.imp (.and (.not Q80) (.and Q82 (.and Q84 Q31))) (.cmp .eql Q83 (.fn 6 (.pr Q52 (.fn 7 (.pr Q61 (.int 1)))))))
theorem fact9 (ρ : Env) : E.B ρ f9 = true := by
  unfold f9
  rw [sm_B_imp]
  simp only [sm_B_and]
  rintro ⟨p0, p1, p2, p3⟩
  try simp only [smA, smW] at *
  have n3 := fn0_nn (ρ := ρ) Q81
  omega
noncomputable def f10 : E := (.imp (.and Q73 (.and (.fn 131 Q0) Q97)) (.not (.cmp .lss Q99 (.int 0))))
theorem fact10 (ρ : Env) : E.B ρ f10 = true := by
  unfold f10
  rw [sm_B_imp]
  simp only [sm_B_and]
  rintro ⟨p0, p1, p2, p3, p4, p5, p6, p7, p8⟩
  have hn0 := t131_nth p1 Q83
  try simp only [smA, smW] at *
  have n5 := fn0_nn (ρ := ρ) Q81
  have n7 := fn0_nn (ρ := ρ) Q0
  obtain ⟨a8, ea8, qa8⟩ := cs_i64 ((E.I ρ Q18) + (1))
  try simp only [ea8] at *
  obtain ⟨a9, ea9, qa9⟩ := cs_u64 a8
  try simp only [ea9] at *
  obtain ⟨a10, ea10, qa10⟩ := cs_rem (E.I ρ (.fn 1 (.pr Q0 Q83))) a9
  try simp only [ea10] at *
  obtain ⟨a11, ea11, qa11⟩ := cs_i64 a10
  try simp only [ea11] at *
  omega
noncomputable def f11 : E := (.imp (.and Q73 (.and (.fn 131 Q0) (.and Q80 (.and Q82 (.and Q84 (.and Q93 (.and Q88 Q78))))))) (.cmp .lss Q99 Q61))
theorem fact11 (ρ : Env) : E.B ρ f11 = true := by
  unfold f11
  rw [sm_B_imp]
  simp only [sm_B_and]
  rintro ⟨p0, p1, p2, p3, p4, p5, p6, p7, p8, p9, p10, p11, p12⟩
  have hn0 := t131_nth p1 Q83
  try simp only [smA, smW] at *
  have n5 := fn0_nn (ρ := ρ) Q81
  have n7 := fn0_nn (ρ := ρ) Q68
  have n8 := fn0_nn (ρ := ρ) Q0
  obtain ⟨a9, ea9, qa9⟩ := cs_i64 ((E.I ρ Q18) + (1))
  try simp only [ea9] at *
  obtain ⟨a10, ea10, qa10⟩ := cs_u64 a9
  try simp only [ea10] at *
  obtain ⟨a11, ea11, qa11⟩ := cs_rem (E.I ρ (.fn 1 (.pr Q0 Q83))) a10
  try simp only [ea11] at *
  obtain ⟨a12, ea12, qa12⟩ := cs_i64 a11
  try simp only [ea12] at *
  omega
noncomputable def f12 : E := (.imp Q90 (.not (.cmp .lss Q100 (.int 0))))
theorem fact12 (ρ : Env) : E.B ρ f12 = true := by
  unfold f12
  rw [sm_B_imp]
  simp only [sm_B_and]
  rintro ⟨p0, p1, p2, p3, p4, p5⟩
  try simp only [smA, smW] at *
  have n3 := fn0_nn (ρ := ρ) Q81
  have n4 := fn0_nn (ρ := ρ) Q68
  obtain ⟨a4, ea4, qa4⟩ := cs_i64 ((E.I ρ Q18) - (1))
  try simp only [ea4] at *
  omega
noncomputable def f13 : E := (.imp Q90 (.cmp .lss Q100 Q61))
theorem fact13 (ρ : Env) : E.B ρ f13 = true := by
  unfold f13
  rw [sm_B_imp]
  simp only [sm_B_and]
  rintro ⟨p0, p1, p2, p3, p4, p5⟩
  try simp only [smA, smW] at *
  have n3 := fn0_nn (ρ := ρ) Q81
  have n4 := fn0_nn (ρ := ρ) Q68
  obtain ⟨a4, ea4, qa4⟩ := cs_i64 ((E.I ρ Q18) - (1))
  try simp only [ea4] at *
  omega
noncomputable def f14 : E := (.imp (.and Q73 Q97) (.not (.cmp .lss Q101 (.int 0))))
theorem fact14 (ρ : Env) : E.B ρ f14 = true := by
  unfold f14
  rw [sm_B_imp]
  simp only [sm_B_and]
  rintro ⟨p0, p1, p2, p3, p4, p5, p6, p7⟩
  try simp only [smA, smW] at *
  have n5 := fn0_nn (ρ := ρ) Q81
  have n7 := fn0_nn (ρ := ρ) Q0
  obtain ⟨a7, ea7, qa7⟩ := cs_i64 ((E.I ρ Q83) + (1))
  try simp only [ea7] at *
  omega
noncomputable def f15 : E := (.imp (.and Q73 (.and Q80 (.and Q82 (.and Q84 (.and Q93 (.and Q88 (.and Q65 (.and Q67 (.and Q69 Q75))))))))) (.cmp .eql (.fn 6 (.pr Q101 Q100)) (.fn 6 (.pr Q52 (.fn 7 (.pr Q61 (.int 1)))))))
theorem fact15 (ρ : Env) : E.B ρ f15 = true := by
  unfold f15
  rw [sm_B_imp]
  simp only [sm_B_and]
  rintro ⟨p0, p1, p2, p3, p4, p5, p6, p7, p8, p9, p10, p11⟩
  try simp only [smA, smW] at *
  have n5 := fn0_nn (ρ := ρ) Q81
  have n7 := fn0_nn (ρ := ρ) Q68
  have n8 := fn0_nn (ρ := ρ) Q0
  obtain ⟨a8, ea8, qa8⟩ := cs_i64 ((E.I ρ Q83) + (1))
  try simp only [ea8] at *
  obtain ⟨a9, ea9, qa9⟩ := cs_i64 ((E.I ρ Q18) - (1))
  try simp only [ea9] at *
  omega
noncomputable def f16 : E := (.imp (.and Q73 (.and Q80 (.and Q87 (.and Q82 (.and Q84 (.and Q93 (.and Q88 (.and Q65 (.and Q67 (.and Q69 (.and Q60 (.and Q4 (.and Q71 (.fn 131 Q0)))))))))))))) (.fn 120 (.pr (.fn 2 (.pr (.fn 2 (.pr Q81 (.pr Q18 (.fn 1 (.pr Q81 Q99))))) (.pr Q99 (.fn 1 (.pr Q81 Q18))))) (.pr Q68 (.pr Q100 (.pr Q0 (.pr Q52 Q101)))))))
theorem fact16 (ρ : Env) : E.B ρ f16 = true := by
  unfold f16
  rw [sm_B_imp]
  simp only [sm_B_and]
  rintro ⟨p0, p1, p2, p3, p4, p5, p6, p7, p8, p9, p10, p11, p12, p13⟩
  obtain ⟨g0, g1, g2, g3, g4, g5, k0, k1, k2⟩ : (0) < E.I ρ Q18 ∧ (0) ≤ E.I ρ Q83 ∧ E.I ρ Q83 < E.I ρ (.fn 0 Q0) ∧ E.I ρ Q100 = E.I ρ (.fn 7 (.pr Q18 (.int 1))) ∧ E.I ρ Q101 = E.I ρ (.fn 6 (.pr Q83 (.int 1))) ∧ E.I ρ Q40 = E.I ρ (.fn 6 (.pr Q18 (.int 1))) ∧ (0) ≤ E.I ρ (.fn 1 (.pr Q0 Q83)) ∧ (0) < E.I ρ (.fn 6 (.pr Q18 (.int 1))) ∧ E.I ρ (.fn 6 (.pr Q18 (.int 1))) < (9223372036854775808) := by
    have hn0 := t131_nth p13 Q83
    try simp only [smA, smW] at *
    have n5 := fn0_nn (ρ := ρ) Q81
    have n7 := fn0_nn (ρ := ρ) Q68
    have n8 := fn0_nn (ρ := ρ) Q0
    obtain ⟨a9, ea9, qa9⟩ := cs_i64 ((E.I ρ Q18) - (1))
    try simp only [ea9] at *
    obtain ⟨a10, ea10, qa10⟩ := cs_i64 ((E.I ρ Q83) + (1))
    try simp only [ea10] at *
    obtain ⟨a11, ea11, qa11⟩ := cs_i64 ((E.I ρ Q18) + (1))
    try simp only [ea11] at *
    omega
  have g7 : E.I ρ Q83 = E.I ρ Q83 := rfl
  have g6 : E.I ρ (.fn 1 (.pr Q0 Q83)) = E.I ρ (.fn 1 (.pr Q0 Q83)) := by first | rfl | (rw [I_nth, I_nth, g7])
  exact t120_step p2 (by (try simp only [sm_I_int]); omega) (by (try simp only [sm_I_int]); omega) g2 (by rw [choose_val (b := (.fn 6 (.pr Q18 (.int 1)))) (by (try simp only [sm_I_int]); omega) (by (try simp only [sm_I_int]); omega) (by (try simp only [sm_I_int]); omega) g5, g6]; rfl) g3 g4
noncomputable def f17 : E := (.imp Q80 (.cmp .lss Q100 Q18))
theorem fact17 (ρ : Env) : E.B ρ f17 = true := by
  unfold f17
  rw [sm_B_imp]
  intro p0
  try simp only [smA, smW] at *
  obtain ⟨a1, ea1, qa1⟩ := cs_i64 ((E.I ρ Q18) - (1))
  try simp only [ea1] at *
  omega
noncomputable def facts : List E := [f0, f1, f2, f3, f4, f5, f6, f7, f8, f9, f10, f11, f12, f13, f14, f15, f16, f17]
theorem facts_ok : ∀ e ∈ facts, ∀ ρ : Env, E.B ρ e = true := (all_cons fact0 (all_cons fact1 (all_cons fact2 (all_cons fact3 (all_cons fact4 (all_cons fact5 (all_cons fact6 (all_cons fact7 (all_cons fact8 (all_cons fact9 (all_cons fact10 (all_cons fact11 (all_cons fact12 (all_cons fact13 (all_cons fact14 (all_cons fact15 (all_cons fact16 (all_cons fact17 all_nil))))))))))))))))))
end p5
set_option maxRecDepth 100000 in
theorem spec5_0 : NatOk Try.prog (specNat (spS)) :=
  spec_of_check good (facts := p5.facts) p5.facts_ok (anns := annS) (plainAnns_ok _ (by kernel_rfl)) (nats := natl6) natl6_ok (n := 3000) (by kernel_rfl)
noncomputable def natl7 : List Nat1 := specNat (spS) :: natl6
theorem natl7_ok : ∀ x ∈ natl7, NatOk Try.prog x := by
  intro x hx
  rcases List.mem_cons.1 hx with rfl | hx
  · exact spec5_0
  exact natl6_ok x hx

end Go.Proofs.Ytmcifbikfjmmfaa.drawsPlays

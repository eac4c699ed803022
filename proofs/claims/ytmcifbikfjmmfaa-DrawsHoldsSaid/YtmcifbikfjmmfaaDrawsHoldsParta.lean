/-
  DrawsHolds: contracts of functions, part 1.
-/
import Derived.Test.YtmcifbikfjmmfaaRows
import Derived.Test.YtmcifbikfjmmfaaNat
import Derived.WalkKit
import Derived.ProofKit
import Derived.OpenShut
import Derived.ChangeOld
import Derived.Below
import Derived.KernelRfl
import Derived.Lib.SmallJoins
namespace Go.Proofs.Ytmcifbikfjmmfaa.drawsHolds
open Go.ChangeShapes Go.WideShapes Go.ChangeAt Go.RowKit
open Go.SX
set_option linter.unusedVariables false
set_option linter.unusedSimpArgs false
set_option maxRecDepth 100000
noncomputable section
abbrev Q0 : E := .var 0
abbrev Q1 : E := .var 1
abbrev Q2 : E := .cmp .lss (.int 41) Q1
abbrev Q3 : E := .not Q2
abbrev Q4 : E := .not (.cmp .lss Q1 (.int 0))
abbrev Q5 : E := .and Q3 Q4
abbrev Q6 : E := .ar .add .i64 Q1 (.int 1)
abbrev Q7 : E := .cmp .lss Q1 (.fn 9 (.pr Q0 (.int 4)))
abbrev Q8 : E := .cmp .lss Q1 (.int 41)
abbrev Q9 : E := .pr Q0 Q1
abbrev Q10 : E := .fn 130 Q9
abbrev Q11 : E := .mn (.fn 9 (.pr Q0 (.int 4))) (.int 41)
abbrev Q12 : E := .and Q7 Q5
abbrev Q13 : E := .cmp .lss (.int 60) (.fn 0 (.fn 1 (.pr Q0 (.fn 6 (.pr (.fn 8 (.pr Q1 (.int 4))) (.int 3))))))
abbrev Q14 : E := .not Q13
abbrev Q15 : E := .and Q10 Q4
abbrev Q16 : E := .and Q14 Q15
abbrev Q17 : E := .fn 130 (.pr Q0 Q6)
abbrev Q18 : E := .var 8
abbrev Q19 : E := .var 2
abbrev Q20 : E := .var 3
abbrev Q21 : E := .cmp .eql Q19 (.fn 0 Q0)
abbrev Q22 : E := .cmp .lss Q18 (.int 0)
abbrev Q23 : E := .not Q22
abbrev Q24 : E := .cmp .lss Q19 (.int 0)
abbrev Q25 : E := .not Q24
abbrev Q26 : E := .cmp .lss (.int 300) Q19
abbrev Q27 : E := .not Q26
abbrev Q28 : E := .and Q27 Q21
abbrev Q29 : E := .and Q25 Q28
abbrev Q30 : E := .and Q23 Q29
abbrev Q31 : E := .and (.not (.cmp .lss Q19 Q18)) Q30
abbrev Q32 : E := .ar .add .i64 Q18 (.int 1)
abbrev Q33 : E := .and (.cmp .lss Q18 Q19) Q30
abbrev Q34 : E := .var 4
abbrev Q35 : E := .cmp .lss Q1 Q20
abbrev Q36 : E := .not Q35
abbrev Q37 : E := .cmp .lss Q20 (.int 0)
abbrev Q38 : E := .not Q37
abbrev Q39 : E := .cmp .lss (.int 300) Q1
abbrev Q40 : E := .not Q39
abbrev Q41 : E := .cmp .eql Q1 (.fn 0 Q0)
abbrev Q42 : E := .and Q4 Q41
abbrev Q43 : E := .and Q40 Q42
abbrev Q44 : E := .ar .sub .i64 Q1 Q20
abbrev Q45 : E := .ar .sub .i64 (.fn 0 Q34) (.int 1)
abbrev Q46 : E := .cmp .lss Q44 Q45
abbrev Q47 : E := .not Q46
abbrev Q48 : E := .cmp .lss (.fn 0 Q34) (.int 1)
abbrev Q49 : E := .not Q48
abbrev Q50 : E := .cmp .lss (.int 60) (.fn 0 Q34)
abbrev Q51 : E := .not Q50
abbrev Q52 : E := .cmp .lss (.fn 7 (.pr Q1 Q20)) (.fn 7 (.pr (.fn 0 Q34) (.int 1)))
abbrev Q53 : E := .not Q52
abbrev Q54 : E := .and Q38 Q43
abbrev Q55 : E := .and Q36 Q54
abbrev Q56 : E := .and Q49 Q55
abbrev Q57 : E := .and Q51 Q56
abbrev Q58 : E := .and Q51 Q49
abbrev Q59 : E := .cmp .lss (.int 0) Q18
abbrev Q60 : E := .var 9
abbrev Q61 : E := .cmp .eql (.fn 0 Q34) (.fn 0 Q60)
abbrev Q62 : E := .var 10
abbrev Q63 : E := .cmp .eql (.fn 6 (.pr Q62 Q18)) (.fn 6 (.pr Q20 (.fn 7 (.pr (.fn 0 Q34) (.int 1)))))
abbrev Q64 : E := .pr Q34 (.pr Q18 (.pr Q0 (.pr Q20 Q62)))
abbrev Q65 : E := .pr Q60 Q64
abbrev Q66 : E := .fn 120 Q65
abbrev Q67 : E := .cmp .lss Q62 (.int 0)
abbrev Q68 : E := .not Q67
abbrev Q69 : E := .and Q68 Q43
abbrev Q70 : E := .and Q63 Q69
abbrev Q71 : E := .and Q61 Q70
abbrev Q72 : E := .and Q59 Q71
abbrev Q73 : E := .and Q53 Q72
abbrev Q74 : E := .wr .u64 Q32
abbrev Q75 : E := .ar .rem .u64 (.fn 1 (.pr Q0 Q62)) Q74
abbrev Q76 : E := .wr .i64 Q75
abbrev Q77 : E := .cmp .lss Q18 (.fn 0 Q34)
abbrev Q78 : E := .and Q77 Q55
abbrev Q79 : E := .and Q68 Q78
abbrev Q80 : E := .and Q63 Q79
abbrev Q81 : E := .and Q61 Q80
abbrev Q82 : E := .and Q59 Q81
abbrev Q83 : E := .ar .sub .i64 Q18 (.int 1)
abbrev Q84 : E := .ar .add .i64 Q62 (.int 1)
theorem own : ownKnob Try.prog.godebug = none := by kernel_rfl
theorem laidOut : laidOutB Try.prog = true := by kernel_rfl
theorem good : progOk Try.prog = true := by kernel_rfl


def ii (e : E) : SV := .int .i64 e
def gone : Blk := ⟨true, .gone⟩
def at0 (b : Nat) : SV := .ptr b ⟨0, 0, .int 0⟩
def eEq (a b : E) : E := .cmp .eql a b
def pl (a b : E) : E := .fn 6 (.pr a b)
def mi (a b : E) : E := .fn 7 (.pr a b)
def f2 (f : Nat) (a b : E) : E := .fn f (.pr a b)
def f3 (f : Nat) (a b c : E) : E := .fn f (.pr a (.pr b c))
def f4 (f : Nat) (a b c d : E) : E := .fn f (.pr a (.pr b (.pr c d)))
def ln (x : E) : E := .fn 0 x
def fl (x n c : E) : Blk := ⟨true, .flat [.int .i64] x n c 3⟩
def flU (x n c : E) : Blk := ⟨true, .flat [.int .u64] x n c 22⟩
def drw (n c u : E) : Blk := ⟨true, .cells [.bool (.bool true), .nslice 1 n c, ii u] (.int 3) 60⟩
def pcD (A n c u : E) : List E := [.fn 131 A, eEq n (ln A), eLe (.int 0) n, eLe n (.int 300), eLe n c, eLe (.int 0) u, eLe u n]
def f101 (x l A u : E) : E := f4 101 x l A u
def f120 (x l i A u p : E) : E := .fn 120 (.pr x (.pr l (.pr i (.pr A (.pr u p)))))
def kU : List CK := [.int .u64]
def kI : List CK := [.int .i64]
def kA : List CK := [.int .i64, .int .i64, .int .i64, .slc kI]
def nF : E := .fn 9 (.pr (eV 0) (.int 4))
def typA (e : E) : E := .fn 27 (.pr (mkList [.int 3, .int 3, .int 3, mkList [.int 3]]) e)
def few : Pact := ⟨15, [.bsl kA (eV 0)], ⟨1, 0, .nil, [typA (eV 0)]⟩, [(.bool (eLe nF (.int 40)), ⟨1, 0, .nil, [f2 130 (eV 0) (.mn nF (.int 41))]⟩), (.bool (.bool false), ⟨1, 0, .nil, []⟩)]⟩
def tfew : Tmpl := ⟨tmSlots 48 [(0, .bsl kA (eV 0)), (3, ii (eV 1))], ⟨2, 0, .nil, [typA (eV 0), eLe (.int 0) (eV 1), eLe (eV 1) nF, eLe (eV 1) (.int 41), f2 130 (eV 0) (eV 1)]⟩, mi nF (eV 1)⟩
def annfew : List Ann := [⟨15, 0, [tfew], none⟩]
def pcE : List E := [f2 106 (eV 0) (eV 1), eEq (eV 2) (eV 3), eEq (eV 2) (ln (eV 0)), eEq (eV 3) (ln (eV 1)), eLe (eV 2) (.int 300), eLe (.int 0) (eV 2), eLe (.int 0) (eV 3), eLe (eV 2) (eV 4), eLe (eV 3) (eV 5)]
def hE : T Blk := heapL [fl (eV 0) (eV 2) (eV 4), fl (eV 1) (eV 3) (eV 5)]
def spE : Pact := ⟨22, [.nslice 0 (eV 2) (eV 4), .nslice 1 (eV 3) (eV 5)], ⟨6, 2, hE, pcE⟩, [(.bool (.bool true), ⟨6, 2, hE, []⟩)]⟩
def tE : Tmpl := ⟨tmSlots 26 [(0, .nslice 0 (eV 2) (eV 4)), (1, .nslice 1 (eV 3) (eV 5)), (5, ii (eV 8))], ⟨9, 2, hE, pcE ++ [eLe (.int 0) (eV 8), eLe (eV 8) (eV 2)]⟩, mi (eV 2) (eV 8)⟩
def hP (u : E) : List Blk := [drw (eV 1) (eV 2) u, flU (eV 0) (eV 1) (eV 2)]
def badP (m b : E) : E := f2 132 m b
def f102 (x m b A u : E) : E := .fn 102 (.pr x (.pr m (.pr b (.pr A u))))
def pcP : List E := pcD (eV 0) (eV 1) (eV 2) (eV 3) ++ [.fn 133 (eV 5)]
def leftP : E := mi (eV 1) (eV 3)
def spP : Pact := ⟨18, [at0 0, ii (eV 4), ii (eV 5)], ⟨6, 2, heapL (hP (eV 3)), pcP⟩,
  [(.tup [.nslice 2 (eV 7) (eV 8), ii (.int 0)], ⟨10, 3, heapL (hP (eV 9) ++ [fl (eV 6) (eV 7) (eV 8)]), [eLe (eV 4) leftP, .not (badP (eV 4) (eV 5)), eLe (.int 1) (eV 4), f102 (eV 6) (eV 4) (eV 5) (eV 0) (eV 3), eEq (eV 7) (eV 4), eEq (eV 7) (ln (eV 6)), eLe (eV 7) (eV 8), eEq (eV 9) (pl (eV 3) (eV 4))]⟩),
   (.tup [.nils, ii (.int 0)], ⟨7, 2, heapL (hP (eV 6)), [eEq (eV 4) (.int 0), .not (badP (eV 4) (eV 5)), eEq (eV 6) (eV 3)]⟩),
   (.tup [.nils, ii (.int 16)], ⟨6, 2, heapL (hP (eV 3)), [eLt leftP (eV 4), .not (badP (eV 4) (eV 5))]⟩),
   (.tup [.nils, ii (.int 2)], ⟨6, 2, heapL (hP (eV 3)), [badP (eV 4) (eV 5)]⟩)]⟩
def okP : List E := pcP ++ [.not (badP (eV 4) (eV 5)), eLe (eV 4) leftP]
def tR0 : Tmpl := ⟨tmSlots 72 [(0, at0 0), (1, ii (eV 4)), (2, ii (eV 5)), (10, .nils), (11, .nils), (36, ii (eV 5)), (37, ii (eV 10))], ⟨11, 2, heapL (hP (eV 3)), okP ++ [eEq (eV 10) (.int 0)]⟩, mi (eV 5) (eV 10)⟩
def tR1 : Tmpl := ⟨tmSlots 72 [(0, at0 0), (1, ii (eV 4)), (2, ii (eV 5)), (10, .nslice 2 (eV 12) (eV 13)), (11, .nils), (36, ii (eV 5)), (37, ii (eV 10))], ⟨14, 3, heapL (hP (eV 3) ++ [fl (eV 11) (eV 12) (eV 13)]),
  okP ++ [eEq (eV 12) (eV 10), eLe (.int 1) (eV 10), eLe (eV 10) (eV 5), eEq (eV 12) (ln (eV 11)), eLe (eV 12) (eV 13), f2 103 (eV 11) (eV 10)]⟩, mi (eV 5) (eV 10)⟩
def f121 (o r k : E) : E := .fn 121 (.pr o (.pr r (.pr k (.pr (eV 4) (.pr (eV 5) (.pr (eV 0) (eV 3)))))))
def tP (r o : Bool) : Tmpl := ⟨tmSlots 72 [(0, at0 0), (10, if r then .nslice 3 (eV 21) (eV 22) else .nils), (11, if o then .nslice 4 (eV 24) (eV 25) else .nils), (45, ii (eV 4)), (46, ii (eV 26))],
  ⟨28, 5, heapL (hP (eV 27) ++ [gone, if r then fl (eV 20) (eV 21) (eV 22) else gone, if o then fl (eV 23) (eV 24) (eV 25) else gone]),
  okP ++ (if r then [eEq (eV 21) (ln (eV 20)), eLe (.int 1) (eV 21), eLe (eV 21) (.int 300), eLe (eV 21) (eV 22)] else []) ++ (if o then [eEq (eV 24) (ln (eV 23)), eEq (eV 24) (eV 26), eLe (.int 1) (eV 24), eLe (eV 24) (eV 25)] else [eEq (eV 26) (.int 0)]) ++
  [eLe (.int 0) (eV 26), eLe (eV 26) (eV 4), eEq (eV 27) (pl (eV 3) (eV 26)), eEq (eV 5) (pl (if r then eV 21 else .int 0) (eV 26)), f121 (if o then eV 23 else mkList []) (if r then eV 20 else mkList []) (eV 26)]⟩, mi (eV 4) (eV 26)⟩
def annP : List Ann := [⟨18, 0, [tR0, tR1], none⟩, ⟨18, 2, [tP false false, tP true false, tP false true, tP true true], none⟩]
/-- the program's shuffle: 0 A, 1 nA, 2 cA, 3 u, 4 l (in memory) -/
def nS : E := ln (eV 4)
def hS (u : E) : List Blk := [drw (eV 1) (eV 2) u, flU (eV 0) (eV 1) (eV 2)]
def pcS : List E := pcD (eV 0) (eV 1) (eV 2) (eV 3) ++ [eLe (.int 1) nS, eLe nS (.int 60)]
def spS : Pact := ⟨10, [at0 0, .bsl kI (eV 4)], ⟨5, 2, heapL (hS (eV 3)), pcS⟩,
  [(.tup [.nslice 2 nS (eV 6), ii (.int 0)], ⟨8, 3, heapL (hS (eV 7) ++ [fl (eV 5) nS (eV 6)]), [eLe (mi nS (.int 1)) (mi (eV 1) (eV 3)), f101 (eV 5) (eV 4) (eV 0) (eV 3), eEq (eV 7) (pl (eV 3) (mi nS (.int 1))), eLe nS (eV 6), eEq nS (ln (eV 5))]⟩),
   (.tup [.nils, ii (.int 16)], ⟨5, 2, heapL (hS (eV 3)), [eLt (mi (eV 1) (eV 3)) (mi nS (.int 1))]⟩)]⟩
def tS : Tmpl := ⟨tmSlots 51 [(0, at0 0), (1, .bsl kI (eV 4)), (8, .nslice 3 nS (eV 7)), (9, ii (eV 8))], ⟨11, 4, heapL (hS (eV 10) ++ [gone, fl (eV 9) nS (eV 7)]),
  pcS ++ [eLe nS (eV 7), eLe (mi nS (.int 1)) (mi (eV 1) (eV 3)), eLe (.int 0) (eV 8), eLt (eV 8) nS, eLe (.int 0) (eV 10), eEq (pl (eV 10) (eV 8)) (pl (eV 3) (mi nS (.int 1))), eEq nS (ln (eV 9)), f120 (eV 9) (eV 4) (eV 8) (eV 0) (eV 3) (eV 10)]⟩, eV 8⟩
def annS : List Ann := [⟨10, 0, [tS], none⟩]
def noInts (b : Nat) : SV := .slice b ⟨0, 0, .int 0⟩ (.int 0) (.int 0)
def noB : Blk := ⟨true, .cells [] (.int 0) 3⟩
def spS0 : Pact := ⟨10, [at0 0, .bsl kI (eV 4)], ⟨5, 2, heapL (hS (eV 3)), pcD (eV 0) (eV 1) (eV 2) (eV 3) ++ [eEq nS (.int 0)]⟩,
  [(.tup [.nils, ii (.int 0)], ⟨5, 2, heapL (hS (eV 3)), []⟩), (.tup [noInts 2, ii (.int 0)], ⟨5, 3, heapL (hS (eV 3) ++ [noB]), []⟩)]⟩
/-- the law: 0 l, 1 acts; 2 A, 3 nA, 4 cA, 5 used, 6 index -/
def typU (e : E) : E := .fn 27 (.pr (mkList [.int 7]) e)
def cell (k : Int) : E := .fn 1 (.pr (eV 1) (.fn 6 (.pr (.fn 8 (.pr (eV 6) (.int 4))) (.int k))))
def what (k : Int) : E := eEq (cell 0) (.int k)
def emptyL : E := eEq (ln (cell 3)) (.int 0)
def nAct : E := .fn 9 (.pr (eV 1) (.int 4))
def pc0 : List E := [typU (eV 0), typA (eV 1)]
def args : List SV := [.bsl kU (eV 0), .bsl kA (eV 1)]
def natl : List Nat1 := [specNat few, specNat spE, specNat spS, specNat spS0, specNat spP, closedNat 8]
def lnL : E := ln (eV 0)
def drwB (b : Nat) (n c u : E) : Blk := ⟨true, .cells [.bool (.bool true), .nslice b n c, ii u] (.int 3) 60⟩
def pcH : List E := [typU (eV 0), typA (eV 1), eLe lnL (.int 300), eLe nAct (.int 40), f2 130 (eV 1) (.mn nAct (.int 41))]
def pcG : List E := pcH ++ pcD (eV 2) (eV 3) (eV 4) (eV 5) ++ [eEq (eV 3) lnL, eLe (.int 0) (eV 6), eLe (eV 6) nAct]
def tG : Tmpl := ⟨tmSlots 234 [(0, .bsl kU (eV 0)), (5, at0 2), (39, at0 2), (41, at0 2), (47, .bsl kA (eV 1)), (48, ii nAct), (49, ii (eV 6))], ⟨7, 4, heapL [gone, gone, drwB 3 (eV 3) (eV 4) (eV 5), flU (eV 2) (eV 3) (eV 4)], pcG⟩, mi nAct (eV 6)⟩
def annG (y : Option LoopX) : Ann := ⟨5, 0, [tG], y⟩
def yG : LoopX := ⟨2, 2, [⟨.exit 0, tmSlots 234 [], ⟨2, 2, .nil, []⟩⟩]⟩
/-- the inner loops: W+0 used, 1 the other's list, 2 its length, 3 room, 4 left, 5 the other's used, 6 x, 7 room, 8 map, 9 index -/
def nC : E := ln (cell 3)
def f140 (m i x j : E) : E := .fn 140 (.pr m (.pr (cell 3) (.pr i (.pr x j))))
def own2 (W : Nat) : List E := [eLe (eV 5) (eV W), eLe (eV W) (eV 3), eEq (eV (W + 2)) (mi (eV 3) (eV 5)), eEq (eV (W + 4)) (mi (eV 3) (eV 5)), eLe (.int 0) (eV (W + 5)), eLe (eV (W + 5)) (eV (W + 2)), eLe (eV (W + 2)) (eV (W + 3)), eEq (pl (eV (W + 5)) (eV 5)) (eV W)]
def slots2 (W b : Nat) : List (Nat × SV) := [(0, .bsl kU (eV 0)), (5, at0 2), (9, at0 (b + 1)), (11, ii (eV (W + 4))), (39, at0 2), (41, at0 2), (47, .bsl kA (eV 1)), (48, ii nAct), (49, ii (eV 6))]
def heap2 (W b : Nat) (x o : Blk) : T Blk := heapL ([gone, gone, drwB 3 (eV 3) (eV 4) (eV W), flU (eV 2) (eV 3) (eV 4)] ++ List.replicate (b - 4) gone ++ [flU (eV (W + 1)) (eV (W + 2)) (eV (W + 3)), drwB b (eV (W + 2)) (eV (W + 3)) (eV (W + 5)), x, o])
def xK (W b k : Nat) : SV := if k == 0 then .nslice (b + 2) nC (eV (W + 7)) else if k == 3 then .nslice (b + 2) (.int 0) (.int 0) else if k == 4 then noInts (b + 2) else .nils
def eK (k : Nat) : SV := ii (.int (if k == 1 then 16 else 0))
def xB (W k : Nat) : Blk := if k == 0 then fl (eV (W + 6)) nC (eV (W + 7)) else if k == 3 then noB else if k == 4 then fl (eV (W + 6)) (.int 0) (.int 0) else gone
def mB (W : Nat) : Blk := ⟨true, .mapl .i64 (.int .i64) (eV (W + 8))⟩
def itB (W : Nat) : Blk := ⟨true, .iter .i64 (.int .i64) (eV (W + 8)) (eV (W + 9)) none⟩
def xE (W k : Nat) : E := if k == 0 then eV (W + 6) else mkList []
def cK (W k : Nat) : List E := if k == 0 then [eEq nC (ln (eV (W + 6))), eLe nC (eV (W + 7)), f101 (eV (W + 6)) (cell 3) (eV 2) (eV 5), eLe (.int 1) nC, eLe nC (.int 60)] else if k == 1 then [eLe (.int 1) nC, eLe nC (.int 60)] else if k == 2 then [emptyL] else [emptyL]
def t3 (W b k : Nat) : Tmpl := ⟨tmSlots 234 (slots2 W b ++ [(14, xK W b k), (15, eK k), (16, .map (b + 3)), (117, .bsl kI (cell 3)), (118, ii nC), (119, ii (eV (W + 9)))]), ⟨W + 10, b + 4, heap2 W b (xB W k) (mB W),
  pcG ++ [eLt (eV 6) nAct] ++ own2 W ++ cK W k ++ [eLe (.int 0) (eV (W + 9)), eLe (eV (W + 9)) nC, f140 (eV (W + 8)) (eV (W + 9)) (xE W k) (.int 0)]⟩, mi nC (eV (W + 9))⟩
def t5 (W b k : Nat) : Tmpl := ⟨tmSlots 234 (slots2 W b ++ [(15, eK k), (16, .map (b + 3)), (128, xK W b k), (129, ii (if k == 0 then nC else .int 0)), (130, ii (if k == 0 then eV (W + 9) else .int 0))]), ⟨W + 10, b + 4, heap2 W b (xB W k) (mB W),
  pcG ++ [eLt (eV 6) nAct] ++ own2 W ++ cK W k ++ [eLe (.int 0) (eV (W + 9)), eLe (eV (W + 9)) (if k == 0 then nC else .int 0), f140 (eV (W + 8)) nC (xE W k) (eV (W + 9))]⟩, mi nC (eV (W + 9))⟩
def t7 (W b k : Nat) : Tmpl := ⟨tmSlots 234 (slots2 W b ++ [(15, eK k), (128, xK W b k), (140, at0 (b + 3))]), ⟨W + 10, b + 4, heap2 W b (xB W k) (itB W),
  pcG ++ [eLt (eV 6) nAct] ++ own2 W ++ cK W k ++ [eLe (.int 0) (eV (W + 9)), f140 (eV (W + 8)) nC (xE W k) (if k == 0 then nC else .int 0)]⟩, eV (W + 9)⟩
def aB : Blk := ⟨true, .cells [ii (cell 0), ii (cell 1), ii (cell 2), .bsl kI (cell 3)] (.int 4) 42⟩
def t9 (W b : Nat) (k : Bool) : Tmpl := ⟨tmSlots 234 (slots2 W b ++ [(8, at0 (b + 3)), (23, if k then .nslice (b + 2) (eV (W + 10)) (eV (W + 7)) else .nils), (182, if k then .nslice (b + 2) (eV (W + 10)) (eV (W + 7)) else .nils), (183, ii (if k then eV (W + 10) else .int 0)), (184, ii (if k then eV (W + 9) else .int 0))]),
  ⟨W + 11, b + 4, heap2 W b (if k then fl (eV (W + 6)) (eV (W + 10)) (eV (W + 7)) else gone) aB,
  pcG ++ [eLt (eV 6) nAct] ++ own2 W ++ (if k then [eEq (eV (W + 10)) (cell 2), eEq (eV (W + 10)) (ln (eV (W + 6))), eLe (eV (W + 10)) (eV (W + 7)), .not (badP (cell 2) (cell 1)), f102 (eV (W + 6)) (cell 2) (cell 1) (eV 2) (eV 5), eLe (.int 0) (eV (W + 9)), eLe (eV (W + 9)) (eV (W + 10)), eLe (eV (W + 10)) (.int 300)] else [])⟩, mi (eV (W + 10)) (eV (W + 9))⟩
def annI : Nat → List Ann
  | 1 => [⟨5, 9, [t9 20 20 true, t9 20 20 false], none⟩]
  | 2 => [⟨5, 3, [t3 20 20 2, t3 20 20 3, t3 20 20 4], none⟩]
  | 3 => [⟨5, 3, [t3 20 20 0, t3 20 20 1], none⟩, ⟨5, 5, [t5 32 32 0, t5 32 32 1], none⟩, ⟨5, 7, [t7 44 44 0, t7 44 44 1], none⟩]
  | _ => []
def csG : List E := [what 0, what 2, emptyL, what 1]

def natl0 : List Nat1 := nats
theorem natl0_ok : ∀ x ∈ natl0, NatOk Try.prog x := nats_ok

theorem reckoned0 : withTab Try.prog (fun tb => checkAll outTrue (run Try.prog (tb.plus [] [] natl0) 3000 (.call 8 []) .nil (varSt 0 []) SX.one)) = true := by kernel_rfl
def natl1 : List Nat1 := closedNat 8 :: natl0
theorem natl1_ok : ∀ x ∈ natl1, NatOk Try.prog x := by
  intro x hx
  rcases List.mem_cons.1 hx with rfl | hx
  · exact closed_of_check good (facts := []) all_nil (anns := []) (plainAnns_ok [] rfl) (nats := natl0) natl0_ok reckoned0
  · exact natl0_ok x hx

namespace p0
def f0 : E := (.fn 130 (.pr Q0 (.int 0)))
theorem fact0 (ρ : Env) : E.B ρ f0 = true := by
  unfold f0
  exact t130_zero (by simp only [sm_I_int]; omega)
def f1 : E := (.imp Q5 (.not (.cmp .lss Q6 (.int 0))))
theorem fact1 (ρ : Env) : E.B ρ f1 = true := by
  unfold f1
  rw [sm_B_imp]
  simp only [sm_B_and]
  rintro ⟨p0, p1⟩
  try simp only [smA, smW] at *
  obtain ⟨a1, ea1, qa1⟩ := cs_i64 ((E.I ρ Q1) + (1))
  try simp only [ea1] at *
  omega
def f2 : E := (.imp (.and Q7 (.and (.not Q8) (.and Q10 Q3))) (.fn 130 (.pr Q0 Q11)))
theorem fact2 (ρ : Env) : E.B ρ f2 = true := by
  unfold f2
  rw [sm_B_imp]
  simp only [sm_B_and]
  rintro ⟨p0, p1, p2, p3⟩
  have g0 : E.I ρ Q11 = E.I ρ Q1 := by
    try simp only [smA, smW] at *
    omega
  exact t130_eq p2 g0
def f3 : E := (.imp (.and (.not Q7) (.and Q10 (.and Q3 (.and (.not (.cmp .lss (.fn 9 (.pr Q0 (.int 4))) Q1)) Q4)))) (.fn 130 (.pr Q0 Q11)))
theorem fact3 (ρ : Env) : E.B ρ f3 = true := by
  unfold f3
  rw [sm_B_imp]
  simp only [sm_B_and]
  rintro ⟨p0, p1, p2, p3, p4⟩
  have g0 : E.I ρ Q11 = E.I ρ Q1 := by
    try simp only [smA, smW] at *
    omega
  exact t130_eq p1 g0
def f4 : E := (.imp Q12 (.not (.cmp .lss (.fn 9 (.pr Q0 (.int 4))) Q6)))
theorem fact4 (ρ : Env) : E.B ρ f4 = true := by
  unfold f4
  rw [sm_B_imp]
  simp only [sm_B_and]
  rintro ⟨p0, p1, p2⟩
  try simp only [smA, smW] at *
  obtain ⟨a2, ea2, qa2⟩ := cs_i64 ((E.I ρ Q1) + (1))
  try simp only [ea2] at *
  omega
def f5 : E := (.imp (.and Q8 Q4) (.not (.cmp .lss (.int 41) Q6)))
theorem fact5 (ρ : Env) : E.B ρ f5 = true := by
  unfold f5
  rw [sm_B_imp]
  simp only [sm_B_and]
  rintro ⟨p0, p1⟩
  try simp only [smA, smW] at *
  obtain ⟨a1, ea1, qa1⟩ := cs_i64 ((E.I ρ Q1) + (1))
  try simp only [ea1] at *
  omega
def f6 : E := (.imp (.and Q7 (.and Q8 (.and (.cmp .lss (.int 65536) (.fn 1 (.pr Q0 (.fn 6 (.pr (.fn 8 (.pr Q1 (.int 4))) (.int 1)))))) Q16))) Q17)
theorem fact6 (ρ : Env) : E.B ρ f6 = true := by
  unfold f6
  rw [sm_B_imp]
  simp only [sm_B_and]
  rintro ⟨p0, p1, p2, p3, p4, p5⟩
  obtain ⟨g0, g1, g2, g3⟩ : (0) ≤ E.I ρ Q1 ∧ E.I ρ Q1 < E.I ρ (.fn 9 (.pr Q0 (.int 4))) ∧ E.I ρ Q6 = E.I ρ (.fn 6 (.pr Q1 (.int 1))) ∧ E.I ρ (.fn 0 (.fn 1 (.pr Q0 (.fn 6 (.pr (.fn 8 (.pr Q1 (.int 4))) (.int 3)))))) ≤ (60) := by
    try simp only [smA, smW] at *
    have n4 := @fn0_nn ρ (.fn 1 (.pr Q0 (.fn 6 (.pr (.fn 8 (.pr Q1 (.int 4))) (.int 3)))))
    obtain ⟨a4, ea4, qa4⟩ := cs_i64 ((E.I ρ Q1) + (1))
    try simp only [ea4] at *
    omega
  exact t130_step p4 (by (try simp only [sm_I_int]); omega) g1 g2 (by (try simp only [sm_I_int]); omega) (fun h => by rw [sm_B_lss] at p2; have := h.2.2; simp only [sm_I_int] at *; omega)
def f7 : E := (.imp (.and Q7 (.and Q8 (.and Q14 (.and (.not (.cmp .lss (.int 300) (.fn 1 (.pr Q0 (.fn 6 (.pr (.fn 8 (.pr Q1 (.int 4))) (.int 1))))))) Q15)))) Q17)
theorem fact7 (ρ : Env) : E.B ρ f7 = true := by
  unfold f7
  rw [sm_B_imp]
  simp only [sm_B_and]
  rintro ⟨p0, p1, p2, p3, p4, p5⟩
  obtain ⟨g0, g1, g2, g3⟩ : (0) ≤ E.I ρ Q1 ∧ E.I ρ Q1 < E.I ρ (.fn 9 (.pr Q0 (.int 4))) ∧ E.I ρ Q6 = E.I ρ (.fn 6 (.pr Q1 (.int 1))) ∧ E.I ρ (.fn 0 (.fn 1 (.pr Q0 (.fn 6 (.pr (.fn 8 (.pr Q1 (.int 4))) (.int 3)))))) ≤ (60) := by
    try simp only [smA, smW] at *
    have n3 := @fn0_nn ρ (.fn 1 (.pr Q0 (.fn 6 (.pr (.fn 8 (.pr Q1 (.int 4))) (.int 3)))))
    obtain ⟨a4, ea4, qa4⟩ := cs_i64 ((E.I ρ Q1) + (1))
    try simp only [ea4] at *
    omega
  exact t130_step p4 (by (try simp only [sm_I_int]); omega) g1 g2 (by (try simp only [sm_I_int]); omega) (fun h => by rw [sm_B_not, sm_B_lss] at p3; exact p3 h.2.1)
def f8 : E := (.imp (.and Q7 (.and Q8 (.and (.not (.cmp .eql (.fn 1 (.pr Q0 (.fn 6 (.pr (.fn 8 (.pr Q1 (.int 4))) (.int 0))))) (.int 2))) Q16))) Q17)
theorem fact8 (ρ : Env) : E.B ρ f8 = true := by
  unfold f8
  rw [sm_B_imp]
  simp only [sm_B_and]
  rintro ⟨p0, p1, p2, p3, p4, p5⟩
  obtain ⟨g0, g1, g2, g3⟩ : (0) ≤ E.I ρ Q1 ∧ E.I ρ Q1 < E.I ρ (.fn 9 (.pr Q0 (.int 4))) ∧ E.I ρ Q6 = E.I ρ (.fn 6 (.pr Q1 (.int 1))) ∧ E.I ρ (.fn 0 (.fn 1 (.pr Q0 (.fn 6 (.pr (.fn 8 (.pr Q1 (.int 4))) (.int 3)))))) ≤ (60) := by
    try simp only [smA, smW] at *
    have n4 := @fn0_nn ρ (.fn 1 (.pr Q0 (.fn 6 (.pr (.fn 8 (.pr Q1 (.int 4))) (.int 3)))))
    obtain ⟨a4, ea4, qa4⟩ := cs_i64 ((E.I ρ Q1) + (1))
    try simp only [ea4] at *
    omega
  exact t130_step p4 (by (try simp only [sm_I_int]); omega) g1 g2 (by (try simp only [sm_I_int]); omega) (fun h => by rw [sm_B_not, sm_B_eql] at p2; exact p2 h.1)
def f9 : E := (.imp Q5 (.cmp .lss (.fn 7 (.pr (.fn 9 (.pr Q0 (.int 4))) Q6)) (.fn 7 (.pr (.fn 9 (.pr Q0 (.int 4))) Q1))))
theorem fact9 (ρ : Env) : E.B ρ f9 = true := by
  unfold f9
  rw [sm_B_imp]
  simp only [sm_B_and]
  rintro ⟨p0, p1⟩
  try simp only [smA, smW] at *
  obtain ⟨a2, ea2, qa2⟩ := cs_i64 ((E.I ρ Q1) + (1))
  try simp only [ea2] at *
  omega
def f10 : E := (.imp Q12 (.not (.cmp .lss (.fn 7 (.pr (.fn 9 (.pr Q0 (.int 4))) Q6)) (.int 0))))
theorem fact10 (ρ : Env) : E.B ρ f10 = true := by
  unfold f10
  rw [sm_B_imp]
  simp only [sm_B_and]
  rintro ⟨p0, p1, p2⟩
  try simp only [smA, smW] at *
  obtain ⟨a2, ea2, qa2⟩ := cs_i64 ((E.I ρ Q1) + (1))
  try simp only [ea2] at *
  omega
def facts : List E := [f0, f1, f2, f3, f4, f5, f6, f7, f8, f9, f10]
theorem facts_ok : ∀ e ∈ facts, ∀ ρ : Env, E.B ρ e = true := (all_cons fact0 (all_cons fact1 (all_cons fact2 (all_cons fact3 (all_cons fact4 (all_cons fact5 (all_cons fact6 (all_cons fact7 (all_cons fact8 (all_cons fact9 (all_cons fact10 all_nil)))))))))))
end p0
theorem spec0_0 : NatOk Try.prog (specNat (few)) :=
  spec_of_check good (facts := p0.facts) p0.facts_ok (anns := annfew) (plainAnns_ok _ (by kernel_rfl)) (nats := natl1) natl1_ok (n := 3000) (by kernel_rfl)
def natl2 : List Nat1 := specNat (few) :: natl1
theorem natl2_ok : ∀ x ∈ natl2, NatOk Try.prog x := by
  intro x hx
  rcases List.mem_cons.1 hx with rfl | hx
  · exact spec0_0
  exact natl1_ok x hx

namespace p1
def f0 : E := (.imp (.and (.cmp .lss Q18 Q19) (.and (.cmp .eql Q20 (.fn 0 Q1)) (.and Q21 (.cmp .eql Q19 Q20)))) (.cmp .lss Q18 Q20))
theorem fact0 (ρ : Env) : E.B ρ f0 = true := by
  unfold f0
  rw [sm_B_imp]
  simp only [sm_B_and]
  rintro ⟨p0, p1, p2, p3⟩
  try simp only [smA, smW] at *
  have n4 := @fn0_nn ρ Q1
  have n5 := @fn0_nn ρ Q0
  omega
def f1 : E := (.imp (.fn 106 Q9) (.cmp .eql (.fn 1 (.pr Q0 Q18)) (.fn 1 (.pr Q1 Q18))))
theorem fact1 (ρ : Env) : E.B ρ f1 = true := by
  unfold f1
  rw [sm_B_imp]
  intro p0
  rw [sm_B_eql]
  exact t106_nth p0
def f2 : E := (.imp Q31 (.not (.cmp .lss Q32 (.int 0))))
theorem fact2 (ρ : Env) : E.B ρ f2 = true := by
  unfold f2
  rw [sm_B_imp]
  simp only [sm_B_and]
  rintro ⟨p0, p1, p2, p3, p4⟩
  try simp only [smA, smW] at *
  have n3 := @fn0_nn ρ Q0
  obtain ⟨a3, ea3, qa3⟩ := cs_i64 ((E.I ρ Q18) + (1))
  try simp only [ea3] at *
  omega
def f3 : E := (.imp Q33 (.not (.cmp .lss Q19 Q32)))
theorem fact3 (ρ : Env) : E.B ρ f3 = true := by
  unfold f3
  rw [sm_B_imp]
  simp only [sm_B_and]
  rintro ⟨p0, p1, p2, p3, p4⟩
  try simp only [smA, smW] at *
  have n3 := @fn0_nn ρ Q0
  obtain ⟨a3, ea3, qa3⟩ := cs_i64 ((E.I ρ Q18) + (1))
  try simp only [ea3] at *
  omega
def f4 : E := (.imp Q31 (.cmp .lss (.fn 7 (.pr Q19 Q32)) (.fn 7 (.pr Q19 Q18))))
theorem fact4 (ρ : Env) : E.B ρ f4 = true := by
  unfold f4
  rw [sm_B_imp]
  simp only [sm_B_and]
  rintro ⟨p0, p1, p2, p3, p4⟩
  try simp only [smA, smW] at *
  have n3 := @fn0_nn ρ Q0
  obtain ⟨a3, ea3, qa3⟩ := cs_i64 ((E.I ρ Q18) + (1))
  try simp only [ea3] at *
  omega
def f5 : E := (.imp Q33 (.not (.cmp .lss (.fn 7 (.pr Q19 Q32)) (.int 0))))
theorem fact5 (ρ : Env) : E.B ρ f5 = true := by
  unfold f5
  rw [sm_B_imp]
  simp only [sm_B_and]
  rintro ⟨p0, p1, p2, p3, p4⟩
  try simp only [smA, smW] at *
  have n3 := @fn0_nn ρ Q0
  obtain ⟨a3, ea3, qa3⟩ := cs_i64 ((E.I ρ Q18) + (1))
  try simp only [ea3] at *
  omega
def facts : List E := [f0, f1, f2, f3, f4, f5]
theorem facts_ok : ∀ e ∈ facts, ∀ ρ : Env, E.B ρ e = true := (all_cons fact0 (all_cons fact1 (all_cons fact2 (all_cons fact3 (all_cons fact4 (all_cons fact5 all_nil))))))
end p1
theorem spec1_0 : NatOk Try.prog (specNat (spE)) :=
  spec_of_check good (facts := p1.facts) p1.facts_ok (anns := [⟨22, 0, [tE], none⟩]) (plainAnns_ok _ (by kernel_rfl)) (nats := natl2) natl2_ok (n := 3000) (by kernel_rfl)
def natl3 : List Nat1 := specNat (spE) :: natl2
theorem natl3_ok : ∀ x ∈ natl3, NatOk Try.prog x := by
  intro x hx
  rcases List.mem_cons.1 hx with rfl | hx
  · exact spec1_0
  exact natl2_ok x hx

namespace p2
def f0 : E := (.imp (.and (.fn 131 Q0) (.and (.cmp .eql (.fn 0 Q34) (.int 0)) (.and Q36 (.and Q38 (.and (.not (.cmp .lss Q19 Q1)) Q43))))) Q47)
theorem fact0 (ρ : Env) : E.B ρ f0 = true := by
  unfold f0
  rw [sm_B_imp]
  simp only [sm_B_and]
  rintro ⟨p0, p1, p2, p3, p4, p5, p6, p7⟩
  try simp only [smA, smW] at *
  have n1 := @fn0_nn ρ Q34
  have n5 := @fn0_nn ρ Q0
  obtain ⟨a5, ea5, qa5⟩ := cs_i64 ((E.I ρ Q1) - (E.I ρ Q20))
  try simp only [ea5] at *
  obtain ⟨a6, ea6, qa6⟩ := cs_i64 ((E.I ρ (.fn 0 Q34)) - (1))
  try simp only [ea6] at *
  omega
def facts : List E := [f0]
theorem facts_ok : ∀ e ∈ facts, ∀ ρ : Env, E.B ρ e = true := (all_cons fact0 all_nil)
end p2
theorem spec2_0 : NatOk Try.prog (specNat (spS0)) :=
  spec_of_check good (facts := p2.facts) p2.facts_ok (anns := []) (plainAnns_ok _ (by kernel_rfl)) (nats := natl3) natl3_ok (n := 3000) (by kernel_rfl)
def natl4 : List Nat1 := specNat (spS0) :: natl3
theorem natl4_ok : ∀ x ∈ natl4, NatOk Try.prog x := by
  intro x hx
  rcases List.mem_cons.1 hx with rfl | hx
  · exact spec2_0
  exact natl3_ok x hx

namespace p3
def f0 : E := (.imp (.and Q49 (.imp (.fn 31 Q34) (.cmp .eql (.fn 0 Q34) (.int 0)))) (.not (.fn 31 Q34)))
theorem fact0 (ρ : Env) : E.B ρ f0 = true := by
  unfold f0
  rw [sm_B_imp]
  simp only [sm_B_and]
  rintro ⟨p0, p1⟩
  rw [sm_B_imp] at p1
  rw [sm_B_not]
  intro hh
  have h0 := p1 hh
  rw [sm_B_eql] at h0
  rw [sm_B_not, sm_B_lss] at p0
  simp only [sm_I_int] at *
  omega
def f1 : E := (.imp (.and Q47 (.and Q51 (.and Q49 (.and Q36 Q41)))) Q53)
theorem fact1 (ρ : Env) : E.B ρ f1 = true := by
  unfold f1
  rw [sm_B_imp]
  simp only [sm_B_and]
  rintro ⟨p0, p1, p2, p3, p4⟩
  try simp only [smA, smW] at *
  have n3 := @fn0_nn ρ Q34
  have n4 := @fn0_nn ρ Q0
  obtain ⟨a4, ea4, qa4⟩ := cs_i64 ((E.I ρ Q1) - (E.I ρ Q20))
  try simp only [ea4] at *
  obtain ⟨a5, ea5, qa5⟩ := cs_i64 ((E.I ρ (.fn 0 Q34)) - (1))
  try simp only [ea5] at *
  omega
def f2 : E := (.imp (.and Q46 Q57) Q52)
theorem fact2 (ρ : Env) : E.B ρ f2 = true := by
  unfold f2
  rw [sm_B_imp]
  simp only [sm_B_and]
  rintro ⟨p0, p1, p2, p3, p4, p5, p6, p7⟩
  try simp only [smA, smW] at *
  have n3 := @fn0_nn ρ Q34
  have n4 := @fn0_nn ρ Q0
  obtain ⟨a4, ea4, qa4⟩ := cs_i64 ((E.I ρ Q1) - (E.I ρ Q20))
  try simp only [ea4] at *
  obtain ⟨a5, ea5, qa5⟩ := cs_i64 ((E.I ρ (.fn 0 Q34)) - (1))
  try simp only [ea5] at *
  omega
def f3 : E := (.imp Q58 (.not (.cmp .lss Q45 (.int 0))))
theorem fact3 (ρ : Env) : E.B ρ f3 = true := by
  unfold f3
  rw [sm_B_imp]
  simp only [sm_B_and]
  rintro ⟨p0, p1⟩
  try simp only [smA, smW] at *
  have n1 := @fn0_nn ρ Q34
  obtain ⟨a1, ea1, qa1⟩ := cs_i64 ((E.I ρ (.fn 0 Q34)) - (1))
  try simp only [ea1] at *
  omega
def f4 : E := (.imp Q58 (.cmp .lss Q45 (.fn 0 Q34)))
theorem fact4 (ρ : Env) : E.B ρ f4 = true := by
  unfold f4
  rw [sm_B_imp]
  simp only [sm_B_and]
  rintro ⟨p0, p1⟩
  try simp only [smA, smW] at *
  have n1 := @fn0_nn ρ Q34
  obtain ⟨a1, ea1, qa1⟩ := cs_i64 ((E.I ρ (.fn 0 Q34)) - (1))
  try simp only [ea1] at *
  omega
def f5 : E := (.imp Q58 (.cmp .eql (.fn 6 (.pr Q20 Q45)) (.fn 6 (.pr Q20 (.fn 7 (.pr (.fn 0 Q34) (.int 1)))))))
theorem fact5 (ρ : Env) : E.B ρ f5 = true := by
  unfold f5
  rw [sm_B_imp]
  simp only [sm_B_and]
  rintro ⟨p0, p1⟩
  try simp only [smA, smW] at *
  have n1 := @fn0_nn ρ Q34
  obtain ⟨a2, ea2, qa2⟩ := cs_i64 ((E.I ρ (.fn 0 Q34)) - (1))
  try simp only [ea2] at *
  omega
def f6 : E := (.imp Q58 (.fn 120 (.pr Q34 (.pr Q34 (.pr Q45 (.pr Q0 (.pr Q20 Q20)))))))
theorem fact6 (ρ : Env) : E.B ρ f6 = true := by
  unfold f6
  rw [sm_B_imp]
  simp only [sm_B_and]
  rintro ⟨p0, p1⟩
  have g0 : E.I ρ Q45 = E.I ρ (.fn 7 (.pr (.fn 0 Q34) (.int 1))) := by
    try simp only [smA, smW] at *
    have n1 := @fn0_nn ρ Q34
    obtain ⟨a1, ea1, qa1⟩ := cs_i64 ((E.I ρ (.fn 0 Q34)) - (1))
    try simp only [ea1] at *
    omega
  have g1 : E.I ρ Q20 = E.I ρ Q20 := rfl
  exact t120_start g0 g1
def f7 : E := (.imp (.and Q53 (.and Q59 (.and Q61 (.and Q63 Q41)))) (.cmp .lss Q62 Q1))
theorem fact7 (ρ : Env) : E.B ρ f7 = true := by
  unfold f7
  rw [sm_B_imp]
  simp only [sm_B_and]
  rintro ⟨p0, p1, p2, p3, p4⟩
  try simp only [smA, smW] at *
  have n3 := @fn0_nn ρ Q34
  have n5 := @fn0_nn ρ Q60
  have n7 := @fn0_nn ρ Q0
  omega
def f8 : E := (.imp (.and (.not Q59) (.and Q66 Q23)) (.fn 101 (.pr Q60 (.pr Q34 (.pr Q0 Q20)))))
theorem fact8 (ρ : Env) : E.B ρ f8 = true := by
  unfold f8
  rw [sm_B_imp]
  simp only [sm_B_and]
  rintro ⟨p0, p1, p2⟩
  have g0 : E.I ρ Q18 ≤ (0) := by
    try simp only [smA, smW] at *
    omega
  exact t120_end p1 (by (try simp only [sm_I_int]); omega)
def f9 : E := (.imp Q73 (.not (.cmp .eql Q74 (.int 0))))
theorem fact9 (ρ : Env) : E.B ρ f9 = true := by
  unfold f9
  rw [sm_B_imp]
  simp only [sm_B_and]
  rintro ⟨p0, p1, p2, p3, p4, p5, p6, p7⟩
  try simp only [smA, smW] at *
  have n3 := @fn0_nn ρ Q34
  have n5 := @fn0_nn ρ Q60
  have n7 := @fn0_nn ρ Q0
  obtain ⟨a7, ea7, qa7⟩ := cs_i64 ((E.I ρ Q18) + (1))
  try simp only [ea7] at *
  obtain ⟨a8, ea8, qa8⟩ := cs_u64 a7
  try simp only [ea8] at *
  omega
def f10 : E := (.imp (.and (.not Q59) (.and Q61 (.and Q63 Q23))) (.cmp .eql Q62 (.fn 6 (.pr Q20 (.fn 7 (.pr (.fn 0 Q34) (.int 1)))))))
theorem fact10 (ρ : Env) : E.B ρ f10 = true := by
  unfold f10
  rw [sm_B_imp]
  simp only [sm_B_and]
  rintro ⟨p0, p1, p2, p3⟩
  try simp only [smA, smW] at *
  have n2 := @fn0_nn ρ Q34
  have n3 := @fn0_nn ρ Q60
  omega
def f11 : E := (.imp (.and Q53 (.and (.fn 131 Q0) Q72)) (.not (.cmp .lss Q76 (.int 0))))
theorem fact11 (ρ : Env) : E.B ρ f11 = true := by
  unfold f11
  rw [sm_B_imp]
  simp only [sm_B_and]
  rintro ⟨p0, p1, p2, p3, p4, p5, p6, p7, p8⟩
  have hn0 := t131_nth p1 Q62
  try simp only [smA, smW] at *
  have n3 := @fn0_nn ρ Q34
  have n5 := @fn0_nn ρ Q60
  have n7 := @fn0_nn ρ Q0
  obtain ⟨a8, ea8, qa8⟩ := cs_i64 ((E.I ρ Q18) + (1))
  try simp only [ea8] at *
  obtain ⟨a9, ea9, qa9⟩ := cs_u64 a8
  try simp only [ea9] at *
  obtain ⟨a10, ea10, qa10⟩ := cs_rem (E.I ρ (.fn 1 (.pr Q0 Q62))) a9
  try simp only [ea10] at *
  obtain ⟨a11, ea11, qa11⟩ := cs_i64 a10
  try simp only [ea11] at *
  omega
def f12 : E := (.imp (.and Q53 (.and (.fn 131 Q0) Q82)) (.cmp .lss Q76 (.fn 0 Q34)))
theorem fact12 (ρ : Env) : E.B ρ f12 = true := by
  unfold f12
  rw [sm_B_imp]
  simp only [sm_B_and]
  rintro ⟨p0, p1, p2, p3, p4, p5, p6, p7, p8, p9, p10, p11⟩
  have hn0 := t131_nth p1 Q62
  try simp only [smA, smW] at *
  have n3 := @fn0_nn ρ Q34
  have n5 := @fn0_nn ρ Q60
  have n7 := @fn0_nn ρ Q0
  obtain ⟨a8, ea8, qa8⟩ := cs_i64 ((E.I ρ Q18) + (1))
  try simp only [ea8] at *
  obtain ⟨a9, ea9, qa9⟩ := cs_u64 a8
  try simp only [ea9] at *
  obtain ⟨a10, ea10, qa10⟩ := cs_rem (E.I ρ (.fn 1 (.pr Q0 Q62))) a9
  try simp only [ea10] at *
  obtain ⟨a11, ea11, qa11⟩ := cs_i64 a10
  try simp only [ea11] at *
  omega
def f13 : E := (.imp Q73 (.not (.cmp .lss Q83 (.int 0))))
theorem fact13 (ρ : Env) : E.B ρ f13 = true := by
  unfold f13
  rw [sm_B_imp]
  simp only [sm_B_and]
  rintro ⟨p0, p1, p2, p3, p4, p5, p6, p7⟩
  try simp only [smA, smW] at *
  have n3 := @fn0_nn ρ Q34
  have n5 := @fn0_nn ρ Q60
  have n7 := @fn0_nn ρ Q0
  obtain ⟨a7, ea7, qa7⟩ := cs_i64 ((E.I ρ Q18) - (1))
  try simp only [ea7] at *
  omega
def f14 : E := (.imp (.and Q53 Q82) (.cmp .lss Q83 (.fn 0 Q34)))
theorem fact14 (ρ : Env) : E.B ρ f14 = true := by
  unfold f14
  rw [sm_B_imp]
  simp only [sm_B_and]
  rintro ⟨p0, p1, p2, p3, p4, p5, p6, p7, p8, p9, p10⟩
  try simp only [smA, smW] at *
  have n3 := @fn0_nn ρ Q34
  have n5 := @fn0_nn ρ Q60
  have n7 := @fn0_nn ρ Q0
  obtain ⟨a7, ea7, qa7⟩ := cs_i64 ((E.I ρ Q18) - (1))
  try simp only [ea7] at *
  omega
def f15 : E := (.imp Q73 (.not (.cmp .lss Q84 (.int 0))))
theorem fact15 (ρ : Env) : E.B ρ f15 = true := by
  unfold f15
  rw [sm_B_imp]
  simp only [sm_B_and]
  rintro ⟨p0, p1, p2, p3, p4, p5, p6, p7⟩
  try simp only [smA, smW] at *
  have n3 := @fn0_nn ρ Q34
  have n5 := @fn0_nn ρ Q60
  have n7 := @fn0_nn ρ Q0
  obtain ⟨a7, ea7, qa7⟩ := cs_i64 ((E.I ρ Q62) + (1))
  try simp only [ea7] at *
  omega
def f16 : E := (.imp (.and Q53 (.and Q59 (.and Q61 (.and Q63 (.and Q68 (.and Q77 Q57)))))) (.cmp .eql (.fn 6 (.pr Q84 Q83)) (.fn 6 (.pr Q20 (.fn 7 (.pr (.fn 0 Q34) (.int 1)))))))
theorem fact16 (ρ : Env) : E.B ρ f16 = true := by
  unfold f16
  rw [sm_B_imp]
  simp only [sm_B_and]
  rintro ⟨p0, p1, p2, p3, p4, p5, p6, p7, p8, p9, p10, p11, p12⟩
  try simp only [smA, smW] at *
  have n3 := @fn0_nn ρ Q34
  have n5 := @fn0_nn ρ Q60
  have n7 := @fn0_nn ρ Q0
  obtain ⟨a7, ea7, qa7⟩ := cs_i64 ((E.I ρ Q62) + (1))
  try simp only [ea7] at *
  obtain ⟨a8, ea8, qa8⟩ := cs_i64 ((E.I ρ Q18) - (1))
  try simp only [ea8] at *
  omega
def f17 : E := (.imp (.and Q53 (.and Q59 (.and Q66 (.and Q61 (.and Q63 (.and Q68 (.and Q77 (.and Q51 (.and Q49 (.and Q36 (.and Q38 (.and Q40 (.and Q4 (.and Q41 (.fn 131 Q0))))))))))))))) (.fn 120 (.pr (.fn 2 (.pr (.fn 2 (.pr Q60 (.pr Q18 (.fn 1 (.pr Q60 Q76))))) (.pr Q76 (.fn 1 (.pr Q60 Q18))))) (.pr Q34 (.pr Q83 (.pr Q0 (.pr Q20 Q84)))))))
theorem fact17 (ρ : Env) : E.B ρ f17 = true := by
  unfold f17
  rw [sm_B_imp]
  simp only [sm_B_and]
  rintro ⟨p0, p1, p2, p3, p4, p5, p6, p7, p8, p9, p10, p11, p12, p13, p14⟩
  obtain ⟨g0, g1, g2, g3, g4, g5, k0, k1, k2⟩ : (0) < E.I ρ Q18 ∧ (0) ≤ E.I ρ Q62 ∧ E.I ρ Q62 < E.I ρ (.fn 0 Q0) ∧ E.I ρ Q83 = E.I ρ (.fn 7 (.pr Q18 (.int 1))) ∧ E.I ρ Q84 = E.I ρ (.fn 6 (.pr Q62 (.int 1))) ∧ E.I ρ Q32 = E.I ρ (.fn 6 (.pr Q18 (.int 1))) ∧ (0) ≤ E.I ρ (.fn 1 (.pr Q0 Q62)) ∧ (0) < E.I ρ (.fn 6 (.pr Q18 (.int 1))) ∧ E.I ρ (.fn 6 (.pr Q18 (.int 1))) < (9223372036854775808) := by
    have hn0 := t131_nth p14 Q62
    try simp only [smA, smW] at *
    have n3 := @fn0_nn ρ Q34
    have n5 := @fn0_nn ρ Q60
    have n7 := @fn0_nn ρ Q0
    obtain ⟨a8, ea8, qa8⟩ := cs_i64 ((E.I ρ Q18) - (1))
    try simp only [ea8] at *
    obtain ⟨a9, ea9, qa9⟩ := cs_i64 ((E.I ρ Q62) + (1))
    try simp only [ea9] at *
    obtain ⟨a10, ea10, qa10⟩ := cs_i64 ((E.I ρ Q18) + (1))
    try simp only [ea10] at *
    omega
  have g7 : E.I ρ Q62 = E.I ρ Q62 := rfl
  have g6 : E.I ρ (.fn 1 (.pr Q0 Q62)) = E.I ρ (.fn 1 (.pr Q0 Q62)) := by first | rfl | (rw [I_nth, I_nth, g7])
  exact t120_step p2 (by (try simp only [sm_I_int]); omega) (by (try simp only [sm_I_int]); omega) g2 (by rw [choose_val (b := (.fn 6 (.pr Q18 (.int 1)))) (by (try simp only [sm_I_int]); omega) (by (try simp only [sm_I_int]); omega) (by (try simp only [sm_I_int]); omega) g5, g6]; rfl) g3 g4
def f18 : E := (.imp Q59 (.cmp .lss Q83 Q18))
theorem fact18 (ρ : Env) : E.B ρ f18 = true := by
  unfold f18
  rw [sm_B_imp]
  intro p0
  try simp only [smA, smW] at *
  obtain ⟨a1, ea1, qa1⟩ := cs_i64 ((E.I ρ Q18) - (1))
  try simp only [ea1] at *
  omega
def facts : List E := [f0, f1, f2, f3, f4, f5, f6, f7, f8, f9, f10, f11, f12, f13, f14, f15, f16, f17, f18]
theorem facts_ok : ∀ e ∈ facts, ∀ ρ : Env, E.B ρ e = true := (all_cons fact0 (all_cons fact1 (all_cons fact2 (all_cons fact3 (all_cons fact4 (all_cons fact5 (all_cons fact6 (all_cons fact7 (all_cons fact8 (all_cons fact9 (all_cons fact10 (all_cons fact11 (all_cons fact12 (all_cons fact13 (all_cons fact14 (all_cons fact15 (all_cons fact16 (all_cons fact17 (all_cons fact18 all_nil)))))))))))))))))))
end p3
theorem spec3_0 : NatOk Try.prog (specNat (spS)) :=
  spec_of_check good (facts := p3.facts) p3.facts_ok (anns := annS) (plainAnns_ok _ (by kernel_rfl)) (nats := natl4) natl4_ok (n := 3000) (by kernel_rfl)
def natl5 : List Nat1 := specNat (spS) :: natl4
theorem natl5_ok : ∀ x ∈ natl5, NatOk Try.prog x := by
  intro x hx
  rcases List.mem_cons.1 hx with rfl | hx
  · exact spec3_0
  exact natl4_ok x hx

end
end Go.Proofs.Ytmcifbikfjmmfaa.drawsHolds

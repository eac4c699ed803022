/-
  ZoneMany: contracts of functions, part 1.
-/
import Derived.Test.YtfifefjbckmfeaaRows
import Derived.Test.YtfifefjbckmfeaaNat
import Derived.WalkKit
import Derived.ProofKit
import Derived.OpenShut
import Derived.ChangeOld
import Derived.Below
import Derived.KernelRfl
import Derived.Lib.SmallJoins
import Derived.Test.YtfifefjbckmfeaaTheory
namespace Go.Proofs.Ytfifefjbckmfeaa.zoneMany
open Go.ChangeShapes Go.WideShapes Go.ChangeAt Go.RowKit
open Go.SX
set_option linter.unusedVariables false
set_option linter.unusedSimpArgs false
set_option maxRecDepth 100000
theorem own : ownKnob Try.prog.godebug = none := by kernel_rfl
theorem laidOut : laidOutB Try.prog = true := by kernel_rfl
theorem good : progOk Try.prog = true := by kernel_rfl


noncomputable def ii (e : E) : SV := .int .i64 e
noncomputable def gone : Blk := ⟨true, .gone⟩
noncomputable def at0 (b : Nat) : SV := .ptr b ⟨0, 0, .int 0⟩
noncomputable def eEq (a b : E) : E := .cmp .eql a b
noncomputable def f2 (f : Nat) (a b : E) : E := .fn f (.pr a b)
noncomputable def f3 (f : Nat) (a b c : E) : E := .fn f (.pr a (.pr b c))
noncomputable def fl (x n c : Nat) : Blk := ⟨true, .flat [.int .i64] (eV x) (eV n) (eV c) 3⟩
/-- slices.Index of the last one, which stands nowhere ahead -/
noncomputable def pcI : List E := [eLe (.int 1) (eV 1), eLe (eV 1) (eV 4), eLe (eV 4) (.int 200), eLe (eV 4) (eV 5), f3 103 (eV 0) (eV 1) (eV 3)]
noncomputable def spI : Pact := ⟨31, [.nslice 0 (eV 1) (eV 2), ii (eV 3)], ⟨6, 1, heapL [fl 0 4 5], pcI⟩, [(ii (eV 6), ⟨7, 1, heapL [fl 0 4 5], [eEq (eV 6) (.fn 7 (.pr (eV 1) (.int 1)))]⟩)]⟩
noncomputable def tI : Tmpl := ⟨tmSlots 19 [(0, .nslice 0 (eV 1) (eV 2)), (1, ii (eV 3)), (7, ii (eV 1)), (8, ii (eV 8))], ⟨9, 1, heapL [fl 0 4 5], pcI ++ [eLe (.int 0) (eV 8), eLt (eV 8) (eV 1)]⟩, .fn 7 (.pr (eV 1) (eV 8))⟩
/-- two lists that are equal -/
noncomputable def pcS : List E := [f2 106 (eV 0) (eV 1), eEq (eV 2) (eV 3), eEq (eV 2) (.fn 0 (eV 0)), eLe (eV 2) (.int 200), eLe (.int 0) (eV 2), eLe (eV 2) (eV 4), eLe (eV 3) (eV 5)]
noncomputable def spE : Pact := ⟨16, [.nslice 0 (eV 2) (eV 4), .nslice 1 (eV 3) (eV 5)], ⟨6, 2, heapL [fl 0 2 4, fl 1 3 5], pcS⟩, [(.bool (.bool true), ⟨6, 2, heapL [fl 0 2 4, fl 1 3 5], []⟩)]⟩
noncomputable def tE : Tmpl := ⟨tmSlots 26 [(0, .nslice 0 (eV 2) (eV 4)), (1, .nslice 1 (eV 3) (eV 5)), (5, ii (eV 8))], ⟨9, 2, heapL [fl 0 2 4, fl 1 3 5], pcS ++ [eLe (.int 0) (eV 8), eLe (eV 8) (eV 2)]⟩, .fn 7 (.pr (eV 2) (eV 8))⟩
/-- a list the other way round -/
noncomputable def pcR : List E := [eEq (eV 1) (.fn 0 (eV 0)), eLe (.int 1) (eV 1), eLe (eV 1) (.int 200), eLe (eV 1) (eV 2)]
noncomputable def spR : Pact := ⟨19, [.nslice 0 (eV 1) (eV 2)], ⟨3, 1, heapL [fl 0 1 2], pcR⟩, [(.nslice 1 (eV 4) (eV 5), ⟨6, 2, heapL [fl 0 1 2, fl 3 4 5], [eLe (.int 0) (eV 4), eEq (eV 4) (eV 1), eLe (eV 4) (eV 5), f3 105 (eV 3) (eV 0) (.int 0), eEq (eV 4) (.fn 0 (eV 3))]⟩)]⟩
noncomputable def tR0 : Tmpl := ⟨tmSlots 20 [(0, .nslice 0 (eV 1) (eV 2)), (3, .nils), (4, ii (eV 8))], ⟨9, 1, heapL [fl 0 1 2], pcR ++ [eEq (eV 8) (.fn 7 (.pr (eV 1) (.int 1)))]⟩, .fn 6 (.pr (eV 8) (.int 2))⟩
noncomputable def tR1 : Tmpl := ⟨tmSlots 20 [(0, .nslice 0 (eV 1) (eV 2)), (3, .nslice 1 (eV 10) (eV 11)), (4, ii (eV 8))], ⟨12, 2, heapL [fl 0 1 2, fl 9 10 11],
  pcR ++ [eLe (.int 0) (eV 10), f3 105 (eV 9) (eV 0) (.fn 6 (.pr (eV 8) (.int 1))), eEq (eV 10) (.fn 0 (eV 9)), eLe (eV 10) (eV 11), eLe (.int (-1)) (eV 8), eEq (.fn 6 (.pr (eV 10) (.fn 6 (.pr (eV 8) (.int 1))))) (eV 1)]⟩, .fn 6 (.pr (eV 8) (.int 1))⟩
noncomputable def sp0 : Pact := ⟨19, [.nils], ⟨0, 0, .nil, []⟩, [(.nils, ⟨0, 0, .nil, []⟩)]⟩
noncomputable def pc0 : List E := i64R [0, 1]
noncomputable def args : List SV := [ii (eV 0), ii (eV 1)]
noncomputable def pcL : List E := [eLe (.int 0) (eV 0), eLe (eV 0) (.int 200), eLe (.int 1) (eV 1), eLe (eV 1) (.int 9)]
noncomputable def lists (a b : SV) : Blk := ⟨true, .cells [a, b] (.int 2) 35⟩
noncomputable def zB : Blk := ⟨true, .cells [.nslice 0 (.int 2) (.int 2), .map 1] (.int 2) 53⟩
noncomputable def mapB (m : Nat) : Blk := ⟨true, .mapl .i64 (.int .i64) (eV m)⟩
noncomputable def t0 : Tmpl := ⟨tmSlots 106 [(0, ii (eV 0)), (1, ii (eV 1)), (5, at0 2), (7, .nils), (8, ii (.int 1))], ⟨2, 3, heapL [lists .nils .nils, ⟨true, .map [] (.int 0)⟩, zB], pcL⟩, .fn 6 (.pr (eV 0) (.int 1))⟩
noncomputable def t1 : Tmpl := ⟨tmSlots 106 [(0, ii (eV 0)), (1, ii (eV 1)), (5, at0 2), (7, .nslice 4 (eV 10) (eV 13)), (8, ii (eV 8))], ⟨15, 5, heapL [lists (.nslice 3 (eV 10) (eV 11)) .nils, mapB 14, zB, fl 9 10 11, fl 12 10 13],
  pcL ++ [eLe (.int 1) (eV 10), eLe (eV 10) (.int 200), eLe (.int 2) (eV 8), eLe (eV 8) (.fn 6 (.pr (eV 0) (.int 1))), eEq (eV 10) (.fn 7 (.pr (eV 8) (.int 1))), eEq (eV 10) (.fn 0 (eV 9)), eLe (eV 10) (eV 11), eLe (eV 10) (eV 13), f3 100 (eV 9) (eV 10) (eV 1), f3 100 (eV 12) (eV 10) (eV 1), f2 101 (eV 14) (eV 10)]⟩, .fn 7 (.pr (.fn 6 (.pr (eV 0) (.int 1))) (eV 8))⟩
noncomputable def u0 : Tmpl := ⟨tmSlots 106 [(0, ii (eV 0)), (1, ii (eV 1)), (5, at0 2), (7, .nils), (9, ii (eV 24))], ⟨25, 8, heapL [lists .nils .nils, ⟨true, .map [] (.int 0)⟩, zB, gone, gone, gone, gone, gone], pcL ++ [eLt (eV 24) (.int 0)]⟩, .int 0⟩
noncomputable def pcY (x n cx y cy m : Nat) : List E := pcL ++ [eLe (.int 1) (eV n), eLe (eV n) (.int 200), eEq (eV n) (.fn 0 (eV y)), eLe (eV n) (eV cx), eLe (eV n) (eV cy), f2 106 (eV x) (eV y), .fn 107 (eV y), .fn 108 (eV y)]
noncomputable def u1 : Tmpl := ⟨tmSlots 106 [(0, ii (eV 0)), (1, ii (eV 1)), (5, at0 2), (7, .nslice 4 (eV 26) (eV 29)), (9, ii (eV 24))], ⟨31, 8, heapL [lists (.nslice 3 (eV 26) (eV 27)) .nils, mapB 30, zB, fl 25 26 27, fl 28 26 29, gone, gone, gone],
  pcY 25 26 27 28 29 30 ++ [eEq (eV 24) (.fn 7 (.pr (eV 26) (.int 1))), f3 104 (eV 30) (eV 28) (eV 26)]⟩, .fn 6 (.pr (eV 24) (.int 1))⟩
noncomputable def u2 : Tmpl := ⟨tmSlots 106 [(0, ii (eV 0)), (1, ii (eV 1)), (5, at0 2), (7, .nslice 4 (eV 26) (eV 29)), (9, ii (eV 24))], ⟨36, 9, heapL [lists (.nslice 3 (eV 31) (eV 32)) (.nslice 8 (eV 34) (eV 35)), mapB 30, zB, fl 25 26 27, fl 28 26 29, gone, gone, gone, fl 33 34 35],
  pcY 25 26 27 28 29 30 ++ [eLe (.int 0) (eV 31), eLe (eV 31) (eV 26), eLe (.int 1) (eV 34), eLe (eV 34) (.int 200), eLe (.int (-1)) (eV 24), eLt (.fn 6 (.pr (eV 24) (.int 1))) (eV 26), eEq (eV 31) (.fn 6 (.pr (eV 24) (.int 1))), eLe (eV 31) (eV 32), eLe (eV 32) (eV 27), eEq (.fn 6 (.pr (eV 34) (.fn 6 (.pr (eV 24) (.int 1))))) (eV 26), eEq (eV 34) (.fn 0 (eV 33)), eLe (eV 34) (eV 35),
   f3 104 (eV 30) (eV 28) (.fn 6 (.pr (eV 24) (.int 1))), f3 105 (eV 33) (eV 28) (.fn 6 (.pr (eV 24) (.int 1)))]⟩, .fn 6 (.pr (eV 24) (.int 1))⟩
/-- the first id was put under nothing: the law's list is as it was built -/
noncomputable def sl1 (b : Nat) : SV := .slice b ⟨0, 0, .int 0⟩ (.int 1) (.int 1)
noncomputable def one (t : E) : Blk := ⟨true, .cells [ii (.int 1)] t 3⟩
noncomputable def map1 (z : Int) : Blk := ⟨true, .map [⟨ii (.int 1), ii (.int z), .int 0⟩] (.int 1)⟩
noncomputable def t1s : Tmpl := ⟨tmSlots 106 [(0, ii (eV 0)), (1, ii (eV 1)), (5, at0 2), (7, sl1 4), (8, ii (.int 2))], ⟨9, 5, heapL [lists (.nslice 3 (.int 1) (eV 8)) .nils, map1 0, zB, one (eV 8), one (.int 1)], pcL ++ [eLe (.int 1) (eV 8), eLe (.int 1) (eV 0), eEq (eV 1) (.int 1)]⟩, .fn 7 (.pr (eV 0) (.int 1))⟩
noncomputable def u1s : Tmpl := ⟨tmSlots 106 [(0, ii (eV 0)), (1, ii (eV 1)), (5, at0 2), (7, sl1 4), (9, ii (eV 24))], ⟨26, 8, heapL [lists (.nslice 3 (.int 1) (eV 25)) .nils, map1 0, zB, one (eV 25), one (.int 1), gone, gone, gone], pcL ++ [eLe (.int 1) (eV 25), eEq (eV 24) (.int 0)]⟩, .int 1⟩
noncomputable def u2s : Tmpl := ⟨tmSlots 106 [(0, ii (eV 0)), (1, ii (eV 1)), (5, at0 2), (7, sl1 4), (9, ii (eV 24))], ⟨29, 9, heapL [lists (.nslice 3 (eV 27) (eV 27)) (.nslice 8 (.int 1) (eV 26)), ⟨true, .map [⟨ii (.int 1), ii (.int 1), .int 1⟩] (.int 2)⟩, zB, ⟨true, .flat [.int .i64] (eV 28) (.int 1) (eV 25) 3⟩, one (.int 1), gone, gone, gone, one (eV 26)],
  pcL ++ [eEq (eV 27) (.int 0), eLe (.int 1) (eV 25), eLe (.int 1) (eV 26), eEq (eV 24) (.int (-1))]⟩, .int 0⟩
noncomputable def anns : List Ann := [⟨4, 0, [t0, t1s, t1], none⟩, ⟨4, 2, [u0, u1s, u2s, u1, u2], none⟩]

noncomputable def natl0 : List Nat1 := nats
theorem natl0_ok : ∀ x ∈ natl0, NatOk Try.prog x := nats_ok

set_option maxRecDepth 100000 in
theorem reckoned0 : withTab Try.prog (fun tb => checkAll outTrue (run Try.prog (tb.plus [] [] natl0) 3000 (.call 13 []) .nil (varSt 0 []) SX.one)) = true := by kernel_rfl
noncomputable def natl1 : List Nat1 := closedNat 13 :: natl0
theorem natl1_ok : ∀ x ∈ natl1, NatOk Try.prog x := by
  intro x hx
  rcases List.mem_cons.1 hx with rfl | hx
  · exact closed_of_check good (facts := []) all_nil (anns := []) (plainAnns_ok [] rfl) (nats := natl0) natl0_ok reckoned0
  · exact natl0_ok x hx

namespace p0
noncomputable def facts : List E := []
theorem facts_ok : ∀ e ∈ facts, ∀ ρ : Env, E.B ρ e = true := all_nil
end p0
set_option maxRecDepth 100000 in
theorem spec0_0 : NatOk Try.prog (specNat (sp0)) :=
  spec_of_check good (facts := p0.facts) p0.facts_ok (anns := []) (plainAnns_ok _ (by kernel_rfl)) (nats := natl1) natl1_ok (n := 3000) (by kernel_rfl)
noncomputable def natl2 : List Nat1 := specNat (sp0) :: natl1
theorem natl2_ok : ∀ x ∈ natl2, NatOk Try.prog x := by
  intro x hx
  rcases List.mem_cons.1 hx with rfl | hx
  · exact spec0_0
  exact natl1_ok x hx

namespace p1
noncomputable def f0 : E := (.imp (.and (.not (.cmp .lss (.var 2) (.var 1))) (.and (.not (.cmp .lss (.int 200) (.var 1))) (.and (.not (.cmp .lss (.var 1) (.int 1))) (.cmp .eql (.var 1) (.fn 0 (.var 0)))))) (.cmp .eql (.ar .sub .i64 (.var 1) (.int 1)) (.fn 7 (.pr (.var 1) (.int 1)))))
theorem fact0 (ρ : Env) : E.B ρ f0 = true := by
  unfold f0
  rw [sm_B_imp]
  simp only [sm_B_and]
  rintro ⟨p0, p1, p2, p3⟩
  try simp only [smA, smW] at *
  try generalize E.I ρ (.var 2) = a0 at *
  try generalize E.I ρ (.var 1) = a1 at *
  have na2 := fn0_nn (ρ := ρ) (.var 0)
  try generalize E.I ρ (.fn 0 (.var 0)) = a2 at *
  obtain ⟨a3, ea3, qa3⟩ := cs_i64 (a1 - (1))
  try simp only [ea3] at *
  omega
noncomputable def f1 : E := (.imp (.and (.not (.cmp .lss (.var 2) (.var 1))) (.and (.not (.cmp .lss (.int 200) (.var 1))) (.and (.not (.cmp .lss (.var 1) (.int 1))) (.and (.cmp .eql (.var 1) (.fn 0 (.var 0))) (.cmp .eql (.var 8) (.fn 7 (.pr (.var 1) (.int 1)))))))) (.cmp .lss (.var 8) (.var 1)))
theorem fact1 (ρ : Env) : E.B ρ f1 = true := by
  unfold f1
  rw [sm_B_imp]
  simp only [sm_B_and]
  rintro ⟨p0, p1, p2, p3, p4⟩
  try simp only [smA, smW] at *
  try generalize E.I ρ (.var 2) = a0 at *
  try generalize E.I ρ (.var 1) = a1 at *
  have na2 := fn0_nn (ρ := ρ) (.var 0)
  try generalize E.I ρ (.fn 0 (.var 0)) = a2 at *
  try generalize E.I ρ (.var 8) = a3 at *
  omega
noncomputable def f2 : E := (.imp (.and (.not (.cmp .lss (.var 2) (.var 1))) (.and (.not (.cmp .lss (.int 200) (.var 1))) (.and (.not (.cmp .lss (.var 1) (.int 1))) (.and (.cmp .eql (.var 1) (.fn 0 (.var 0))) (.cmp .eql (.var 8) (.fn 7 (.pr (.var 1) (.int 1)))))))) (.not (.cmp .lss (.var 8) (.int 0))))
theorem fact2 (ρ : Env) : E.B ρ f2 = true := by
  unfold f2
  rw [sm_B_imp]
  simp only [sm_B_and]
  rintro ⟨p0, p1, p2, p3, p4⟩
  try simp only [smA, smW] at *
  try generalize E.I ρ (.var 2) = a0 at *
  try generalize E.I ρ (.var 1) = a1 at *
  have na2 := fn0_nn (ρ := ρ) (.var 0)
  try generalize E.I ρ (.fn 0 (.var 0)) = a2 at *
  try generalize E.I ρ (.var 8) = a3 at *
  omega
noncomputable def f3 : E := (.imp (.and (.cmp .eql (.fn 6 (.pr (.var 10) (.fn 6 (.pr (.var 8) (.int 1))))) (.var 1)) (.and (.not (.cmp .lss (.var 8) (.int (-1)))) (.and (.not (.cmp .lss (.var 11) (.var 10))) (.and (.cmp .eql (.var 10) (.fn 0 (.var 9))) (.and (.not (.cmp .lss (.var 10) (.int 0))) (.and (.not (.cmp .lss (.var 2) (.var 1))) (.and (.not (.cmp .lss (.int 200) (.var 1))) (.and (.not (.cmp .lss (.var 1) (.int 1))) (.cmp .eql (.var 1) (.fn 0 (.var 0))))))))))) (.cmp .lss (.var 8) (.var 1)))
theorem fact3 (ρ : Env) : E.B ρ f3 = true := by
  unfold f3
  rw [sm_B_imp]
  simp only [sm_B_and]
  rintro ⟨p0, p1, p2, p3, p4, p5, p6, p7, p8⟩
  try simp only [smA, smW] at *
  try generalize E.I ρ (.var 10) = a0 at *
  try generalize E.I ρ (.var 8) = a1 at *
  try generalize E.I ρ (.var 1) = a2 at *
  try generalize E.I ρ (.var 11) = a3 at *
  have na4 := fn0_nn (ρ := ρ) (.var 9)
  try generalize E.I ρ (.fn 0 (.var 9)) = a4 at *
  try generalize E.I ρ (.var 2) = a5 at *
  have na6 := fn0_nn (ρ := ρ) (.var 0)
  try generalize E.I ρ (.fn 0 (.var 0)) = a6 at *
  omega
noncomputable def f4 : E := (.imp (.and (.cmp .lss (.var 8) (.int 0)) (.and (.cmp .eql (.fn 6 (.pr (.var 10) (.fn 6 (.pr (.var 8) (.int 1))))) (.var 1)) (.and (.not (.cmp .lss (.var 8) (.int (-1)))) (.and (.not (.cmp .lss (.var 11) (.var 10))) (.and (.cmp .eql (.var 10) (.fn 0 (.var 9))) (.and (.not (.cmp .lss (.var 10) (.int 0))) (.and (.not (.cmp .lss (.var 2) (.var 1))) (.and (.not (.cmp .lss (.int 200) (.var 1))) (.and (.not (.cmp .lss (.var 1) (.int 1))) (.cmp .eql (.var 1) (.fn 0 (.var 0)))))))))))) (.cmp .eql (.var 10) (.var 1)))
theorem fact4 (ρ : Env) : E.B ρ f4 = true := by
  unfold f4
  rw [sm_B_imp]
  simp only [sm_B_and]
  rintro ⟨p0, p1, p2, p3, p4, p5, p6, p7, p8, p9⟩
  try simp only [smA, smW] at *
  try generalize E.I ρ (.var 8) = a0 at *
  try generalize E.I ρ (.var 10) = a1 at *
  try generalize E.I ρ (.var 1) = a2 at *
  try generalize E.I ρ (.var 11) = a3 at *
  have na4 := fn0_nn (ρ := ρ) (.var 9)
  try generalize E.I ρ (.fn 0 (.var 9)) = a4 at *
  try generalize E.I ρ (.var 2) = a5 at *
  have na6 := fn0_nn (ρ := ρ) (.var 0)
  try generalize E.I ρ (.fn 0 (.var 0)) = a6 at *
  omega
noncomputable def f5 : E := (.imp (.and (.not (.cmp .lss (.var 9) (.int 0))) (.and (.not (.cmp .lss (.var 9) (.int 1))) (.and (.not (.cmp .lss (.var 2) (.var 1))) (.and (.not (.cmp .lss (.int 200) (.var 1))) (.and (.not (.cmp .lss (.var 1) (.int 1))) (.and (.cmp .eql (.var 1) (.fn 0 (.var 0))) (.cmp .eql (.var 8) (.fn 7 (.pr (.var 1) (.int 1)))))))))) (.fn 105 (.pr (.fn 23 (.pr (.fn 1 (.pr (.var 0) (.var 8))) (.fn 10 (.int 0)))) (.pr (.var 0) (.fn 6 (.pr (.ar .sub .i64 (.var 8) (.int 1)) (.int 1)))))))
theorem fact5 (ρ : Env) : E.B ρ f5 = true := by
  unfold f5
  rw [sm_B_imp]
  simp only [sm_B_and]
  rintro ⟨p0, p1, p2, p3, p4, p5, p6⟩
  obtain ⟨v0, ev0, qv0⟩ := cs_i64 (E.I ρ (.var 8) - E.I ρ (.int 1))
  have ew0 : E.I ρ (.ar .sub .i64 (.var 8) (.int 1)) = v0 := ev0
  first
    | exact t105_first (i := (.var 8)) (by simp only [ints_app, ints_cons, ints_nil, ints_sub0, List.nil_append, List.append_nil, List.cons_append]) (by first | omega | (simp only [smA, ints_len, ew0] at *; first | done | omega)) (by first | omega | (simp only [smA, ints_len, ew0] at *; first | done | omega)) (by first | omega | (simp only [smA, ints_len, ew0] at *; first | done | omega))
noncomputable def f6 : E := (.imp (.and (.cmp .eql (.fn 6 (.pr (.var 10) (.fn 6 (.pr (.var 8) (.int 1))))) (.var 1)) (.and (.not (.cmp .lss (.var 8) (.int (-1)))) (.and (.not (.cmp .lss (.var 11) (.var 10))) (.and (.cmp .eql (.var 10) (.fn 0 (.var 9))) (.and (.not (.cmp .lss (.var 10) (.int 0))) (.and (.not (.cmp .lss (.var 2) (.var 1))) (.and (.not (.cmp .lss (.int 200) (.var 1))) (.and (.not (.cmp .lss (.var 1) (.int 1))) (.cmp .eql (.var 1) (.fn 0 (.var 0))))))))))) (.not (.cmp .lss (.var 11) (.int 0))))
theorem fact6 (ρ : Env) : E.B ρ f6 = true := by
  unfold f6
  rw [sm_B_imp]
  simp only [sm_B_and]
  rintro ⟨p0, p1, p2, p3, p4, p5, p6, p7, p8⟩
  try simp only [smA, smW] at *
  try generalize E.I ρ (.var 10) = a0 at *
  try generalize E.I ρ (.var 8) = a1 at *
  try generalize E.I ρ (.var 1) = a2 at *
  try generalize E.I ρ (.var 11) = a3 at *
  have na4 := fn0_nn (ρ := ρ) (.var 9)
  try generalize E.I ρ (.fn 0 (.var 9)) = a4 at *
  try generalize E.I ρ (.var 2) = a5 at *
  have na6 := fn0_nn (ρ := ρ) (.var 0)
  try generalize E.I ρ (.fn 0 (.var 0)) = a6 at *
  omega
noncomputable def f7 : E := (.imp (.and (.cmp .lss (.var 8) (.int 0)) (.and (.cmp .eql (.fn 6 (.pr (.var 10) (.fn 6 (.pr (.var 8) (.int 1))))) (.var 1)) (.and (.not (.cmp .lss (.var 8) (.int (-1)))) (.and (.not (.cmp .lss (.var 11) (.var 10))) (.and (.cmp .eql (.var 10) (.fn 0 (.var 9))) (.and (.fn 105 (.pr (.var 9) (.pr (.var 0) (.fn 6 (.pr (.var 8) (.int 1)))))) (.and (.not (.cmp .lss (.var 10) (.int 0))) (.and (.not (.cmp .lss (.var 2) (.var 1))) (.and (.not (.cmp .lss (.int 200) (.var 1))) (.and (.not (.cmp .lss (.var 1) (.int 1))) (.cmp .eql (.var 1) (.fn 0 (.var 0))))))))))))) (.fn 105 (.pr (.var 9) (.pr (.var 0) (.int 0)))))
theorem fact7 (ρ : Env) : E.B ρ f7 = true := by
  unfold f7
  rw [sm_B_imp]
  simp only [sm_B_and]
  rintro ⟨p0, p1, p2, p3, p4, p5, p6, p7, p8, p9, p10⟩
  first
    | exact t105_congr p5 (by first | omega | (simp only [smA, ints_len] at *; first | done | omega))
noncomputable def f8 : E := (.imp (.and (.not (.cmp .lss (.var 2) (.var 1))) (.and (.not (.cmp .lss (.int 200) (.var 1))) (.and (.not (.cmp .lss (.var 1) (.int 1))) (.and (.cmp .eql (.var 1) (.fn 0 (.var 0))) (.cmp .eql (.var 8) (.fn 7 (.pr (.var 1) (.int 1)))))))) (.not (.cmp .lss (.ar .sub .i64 (.var 8) (.int 1)) (.int (-1)))))
theorem fact8 (ρ : Env) : E.B ρ f8 = true := by
  unfold f8
  rw [sm_B_imp]
  simp only [sm_B_and]
  rintro ⟨p0, p1, p2, p3, p4⟩
  try simp only [smA, smW] at *
  try generalize E.I ρ (.var 2) = a0 at *
  try generalize E.I ρ (.var 1) = a1 at *
  have na2 := fn0_nn (ρ := ρ) (.var 0)
  try generalize E.I ρ (.fn 0 (.var 0)) = a2 at *
  try generalize E.I ρ (.var 8) = a3 at *
  obtain ⟨a4, ea4, qa4⟩ := cs_i64 (a3 - (1))
  try simp only [ea4] at *
  omega
noncomputable def f9 : E := (.imp (.and (.cmp .eql (.fn 6 (.pr (.var 10) (.fn 6 (.pr (.var 8) (.int 1))))) (.var 1)) (.and (.not (.cmp .lss (.var 8) (.int (-1)))) (.and (.not (.cmp .lss (.var 11) (.var 10))) (.and (.cmp .eql (.var 10) (.fn 0 (.var 9))) (.and (.not (.cmp .lss (.var 10) (.int 0))) (.and (.not (.cmp .lss (.var 2) (.var 1))) (.and (.not (.cmp .lss (.int 200) (.var 1))) (.and (.not (.cmp .lss (.var 1) (.int 1))) (.cmp .eql (.var 1) (.fn 0 (.var 0))))))))))) (.not (.cmp .lss (.int 2147483648) (.fn 6 (.pr (.var 10) (.int 1))))))
theorem fact9 (ρ : Env) : E.B ρ f9 = true := by
  unfold f9
  rw [sm_B_imp]
  simp only [sm_B_and]
  rintro ⟨p0, p1, p2, p3, p4, p5, p6, p7, p8⟩
  try simp only [smA, smW] at *
  try generalize E.I ρ (.var 10) = a0 at *
  try generalize E.I ρ (.var 8) = a1 at *
  try generalize E.I ρ (.var 1) = a2 at *
  try generalize E.I ρ (.var 11) = a3 at *
  have na4 := fn0_nn (ρ := ρ) (.var 9)
  try generalize E.I ρ (.fn 0 (.var 9)) = a4 at *
  try generalize E.I ρ (.var 2) = a5 at *
  have na6 := fn0_nn (ρ := ρ) (.var 0)
  try generalize E.I ρ (.fn 0 (.var 0)) = a6 at *
  omega
noncomputable def f10 : E := (.imp (.and (.not (.cmp .lss (.var 2) (.var 1))) (.and (.not (.cmp .lss (.int 200) (.var 1))) (.and (.not (.cmp .lss (.var 1) (.int 1))) (.and (.cmp .eql (.var 1) (.fn 0 (.var 0))) (.cmp .eql (.var 8) (.fn 7 (.pr (.var 1) (.int 1)))))))) (.cmp .eql (.fn 6 (.pr (.int 1) (.fn 6 (.pr (.ar .sub .i64 (.var 8) (.int 1)) (.int 1))))) (.var 1)))
theorem fact10 (ρ : Env) : E.B ρ f10 = true := by
  unfold f10
  rw [sm_B_imp]
  simp only [sm_B_and]
  rintro ⟨p0, p1, p2, p3, p4⟩
  try simp only [smA, smW] at *
  try generalize E.I ρ (.var 2) = a0 at *
  try generalize E.I ρ (.var 1) = a1 at *
  have na2 := fn0_nn (ρ := ρ) (.var 0)
  try generalize E.I ρ (.fn 0 (.var 0)) = a2 at *
  try generalize E.I ρ (.var 8) = a3 at *
  obtain ⟨a4, ea4, qa4⟩ := cs_i64 (a3 - (1))
  try simp only [ea4] at *
  omega
noncomputable def f11 : E := (.imp (.and (.not (.cmp .lss (.var 8) (.int 0))) (.and (.not (.cmp .lss (.var 12) (.int 0))) (.and (.not (.cmp .lss (.var 12) (.fn 6 (.pr (.var 10) (.int 1))))) (.and (.cmp .eql (.fn 6 (.pr (.var 10) (.fn 6 (.pr (.var 8) (.int 1))))) (.var 1)) (.and (.not (.cmp .lss (.var 8) (.int (-1)))) (.and (.not (.cmp .lss (.var 11) (.var 10))) (.and (.cmp .eql (.var 10) (.fn 0 (.var 9))) (.and (.fn 105 (.pr (.var 9) (.pr (.var 0) (.fn 6 (.pr (.var 8) (.int 1)))))) (.and (.not (.cmp .lss (.var 10) (.int 0))) (.and (.not (.cmp .lss (.var 2) (.var 1))) (.and (.not (.cmp .lss (.int 200) (.var 1))) (.and (.not (.cmp .lss (.var 1) (.int 1))) (.cmp .eql (.var 1) (.fn 0 (.var 0))))))))))))))) (.fn 105 (.pr (.fn 3 (.pr (.var 9) (.fn 23 (.pr (.fn 1 (.pr (.var 0) (.var 8))) (.fn 10 (.int 0)))))) (.pr (.var 0) (.fn 6 (.pr (.ar .sub .i64 (.var 8) (.int 1)) (.int 1)))))))
theorem fact11 (ρ : Env) : E.B ρ f11 = true := by
  unfold f11
  rw [sm_B_imp]
  simp only [sm_B_and]
  rintro ⟨p0, p1, p2, p3, p4, p5, p6, p7, p8, p9, p10, p11, p12⟩
  obtain ⟨v0, ev0, qv0⟩ := cs_i64 (E.I ρ (.var 8) - E.I ρ (.int 1))
  have ew0 : E.I ρ (.ar .sub .i64 (.var 8) (.int 1)) = v0 := ev0
  first
    | exact t105_step (i := (.var 8)) p7 (by simp only [ints_app, ints_cons, ints_nil, ints_sub0, List.nil_append, List.append_nil, List.cons_append]) (by first | omega | (simp only [smA, ints_len, ew0] at *; first | done | omega)) (by first | omega | (simp only [smA, ints_len, ew0] at *; first | done | omega)) (by first | omega | (simp only [smA, ints_len, ew0] at *; first | done | omega)) (by first | omega | (simp only [smA, ints_len, ew0] at *; first | done | omega))
    | exact t105_first (i := (.var 8)) (by simp only [ints_app, ints_cons, ints_nil, ints_sub0, List.nil_append, List.append_nil, List.cons_append]) (by first | omega | (simp only [smA, ints_len, ew0] at *; first | done | omega)) (by first | omega | (simp only [smA, ints_len, ew0] at *; first | done | omega)) (by first | omega | (simp only [smA, ints_len, ew0] at *; first | done | omega))
noncomputable def f12 : E := (.imp (.and (.not (.cmp .lss (.var 2) (.var 1))) (.and (.not (.cmp .lss (.int 200) (.var 1))) (.and (.not (.cmp .lss (.var 1) (.int 1))) (.and (.cmp .eql (.var 1) (.fn 0 (.var 0))) (.cmp .eql (.var 8) (.fn 7 (.pr (.var 1) (.int 1)))))))) (.cmp .lss (.fn 6 (.pr (.ar .sub .i64 (.var 8) (.int 1)) (.int 1))) (.fn 6 (.pr (.var 8) (.int 2)))))
theorem fact12 (ρ : Env) : E.B ρ f12 = true := by
  unfold f12
  rw [sm_B_imp]
  simp only [sm_B_and]
  rintro ⟨p0, p1, p2, p3, p4⟩
  try simp only [smA, smW] at *
  try generalize E.I ρ (.var 2) = a0 at *
  try generalize E.I ρ (.var 1) = a1 at *
  have na2 := fn0_nn (ρ := ρ) (.var 0)
  try generalize E.I ρ (.fn 0 (.var 0)) = a2 at *
  try generalize E.I ρ (.var 8) = a3 at *
  obtain ⟨a4, ea4, qa4⟩ := cs_i64 (a3 - (1))
  try simp only [ea4] at *
  omega
noncomputable def f13 : E := (.imp (.and (.cmp .eql (.fn 6 (.pr (.var 10) (.fn 6 (.pr (.var 8) (.int 1))))) (.var 1)) (.and (.not (.cmp .lss (.var 8) (.int (-1)))) (.and (.not (.cmp .lss (.var 11) (.var 10))) (.and (.cmp .eql (.var 10) (.fn 0 (.var 9))) (.and (.not (.cmp .lss (.var 10) (.int 0))) (.and (.not (.cmp .lss (.var 2) (.var 1))) (.and (.not (.cmp .lss (.int 200) (.var 1))) (.and (.not (.cmp .lss (.var 1) (.int 1))) (.cmp .eql (.var 1) (.fn 0 (.var 0))))))))))) (.cmp .eql (.fn 6 (.pr (.var 10) (.int 1))) (.fn 6 (.pr (.fn 0 (.var 9)) (.int 1)))))
theorem fact13 (ρ : Env) : E.B ρ f13 = true := by
  unfold f13
  rw [sm_B_imp]
  simp only [sm_B_and]
  rintro ⟨p0, p1, p2, p3, p4, p5, p6, p7, p8⟩
  try simp only [smA, smW] at *
  try generalize E.I ρ (.var 10) = a0 at *
  try generalize E.I ρ (.var 8) = a1 at *
  try generalize E.I ρ (.var 1) = a2 at *
  try generalize E.I ρ (.var 11) = a3 at *
  have na4 := fn0_nn (ρ := ρ) (.var 9)
  try generalize E.I ρ (.fn 0 (.var 9)) = a4 at *
  try generalize E.I ρ (.var 2) = a5 at *
  have na6 := fn0_nn (ρ := ρ) (.var 0)
  try generalize E.I ρ (.fn 0 (.var 0)) = a6 at *
  omega
noncomputable def f14 : E := (.imp (.and (.not (.cmp .lss (.var 2) (.var 1))) (.and (.not (.cmp .lss (.int 200) (.var 1))) (.and (.not (.cmp .lss (.var 1) (.int 1))) (.and (.cmp .eql (.var 1) (.fn 0 (.var 0))) (.cmp .eql (.var 8) (.fn 7 (.pr (.var 1) (.int 1)))))))) (.not (.cmp .lss (.fn 6 (.pr (.ar .sub .i64 (.var 8) (.int 1)) (.int 1))) (.int 0))))
theorem fact14 (ρ : Env) : E.B ρ f14 = true := by
  unfold f14
  rw [sm_B_imp]
  simp only [sm_B_and]
  rintro ⟨p0, p1, p2, p3, p4⟩
  try simp only [smA, smW] at *
  try generalize E.I ρ (.var 2) = a0 at *
  try generalize E.I ρ (.var 1) = a1 at *
  have na2 := fn0_nn (ρ := ρ) (.var 0)
  try generalize E.I ρ (.fn 0 (.var 0)) = a2 at *
  try generalize E.I ρ (.var 8) = a3 at *
  obtain ⟨a4, ea4, qa4⟩ := cs_i64 (a3 - (1))
  try simp only [ea4] at *
  omega
noncomputable def f15 : E := (.imp (.and (.not (.cmp .lss (.var 8) (.int 0))) (.and (.cmp .eql (.fn 6 (.pr (.var 10) (.fn 6 (.pr (.var 8) (.int 1))))) (.var 1)) (.and (.not (.cmp .lss (.var 8) (.int (-1)))) (.and (.not (.cmp .lss (.var 11) (.var 10))) (.and (.cmp .eql (.var 10) (.fn 0 (.var 9))) (.and (.not (.cmp .lss (.var 10) (.int 0))) (.and (.not (.cmp .lss (.var 2) (.var 1))) (.and (.not (.cmp .lss (.int 200) (.var 1))) (.and (.not (.cmp .lss (.var 1) (.int 1))) (.cmp .eql (.var 1) (.fn 0 (.var 0)))))))))))) (.not (.cmp .lss (.ar .sub .i64 (.var 8) (.int 1)) (.int (-1)))))
theorem fact15 (ρ : Env) : E.B ρ f15 = true := by
  unfold f15
  rw [sm_B_imp]
  simp only [sm_B_and]
  rintro ⟨p0, p1, p2, p3, p4, p5, p6, p7, p8, p9⟩
  try simp only [smA, smW] at *
  try generalize E.I ρ (.var 8) = a0 at *
  try generalize E.I ρ (.var 10) = a1 at *
  try generalize E.I ρ (.var 1) = a2 at *
  try generalize E.I ρ (.var 11) = a3 at *
  have na4 := fn0_nn (ρ := ρ) (.var 9)
  try generalize E.I ρ (.fn 0 (.var 9)) = a4 at *
  try generalize E.I ρ (.var 2) = a5 at *
  have na6 := fn0_nn (ρ := ρ) (.var 0)
  try generalize E.I ρ (.fn 0 (.var 0)) = a6 at *
  obtain ⟨a7, ea7, qa7⟩ := cs_i64 (a0 - (1))
  try simp only [ea7] at *
  omega
noncomputable def f16 : E := (.imp (.and (.cmp .eql (.fn 6 (.pr (.var 10) (.fn 6 (.pr (.var 8) (.int 1))))) (.var 1)) (.and (.not (.cmp .lss (.var 8) (.int (-1)))) (.and (.not (.cmp .lss (.var 11) (.var 10))) (.and (.cmp .eql (.var 10) (.fn 0 (.var 9))) (.and (.not (.cmp .lss (.var 10) (.int 0))) (.and (.not (.cmp .lss (.var 2) (.var 1))) (.and (.not (.cmp .lss (.int 200) (.var 1))) (.and (.not (.cmp .lss (.var 1) (.int 1))) (.cmp .eql (.var 1) (.fn 0 (.var 0))))))))))) (.cmp .eql (.fn 6 (.pr (.fn 6 (.pr (.var 10) (.int 1))) (.fn 6 (.pr (.ar .sub .i64 (.var 8) (.int 1)) (.int 1))))) (.var 1)))
theorem fact16 (ρ : Env) : E.B ρ f16 = true := by
  unfold f16
  rw [sm_B_imp]
  simp only [sm_B_and]
  rintro ⟨p0, p1, p2, p3, p4, p5, p6, p7, p8⟩
  try simp only [smA, smW] at *
  try generalize E.I ρ (.var 10) = a0 at *
  try generalize E.I ρ (.var 8) = a1 at *
  try generalize E.I ρ (.var 1) = a2 at *
  try generalize E.I ρ (.var 11) = a3 at *
  have na4 := fn0_nn (ρ := ρ) (.var 9)
  try generalize E.I ρ (.fn 0 (.var 9)) = a4 at *
  try generalize E.I ρ (.var 2) = a5 at *
  have na6 := fn0_nn (ρ := ρ) (.var 0)
  try generalize E.I ρ (.fn 0 (.var 0)) = a6 at *
  obtain ⟨a7, ea7, qa7⟩ := cs_i64 (a1 - (1))
  try simp only [ea7] at *
  omega
noncomputable def f17 : E := (.imp (.and (.cmp .eql (.fn 6 (.pr (.var 10) (.fn 6 (.pr (.var 8) (.int 1))))) (.var 1)) (.and (.not (.cmp .lss (.var 8) (.int (-1)))) (.and (.not (.cmp .lss (.var 11) (.var 10))) (.and (.cmp .eql (.var 10) (.fn 0 (.var 9))) (.and (.not (.cmp .lss (.var 10) (.int 0))) (.and (.not (.cmp .lss (.var 2) (.var 1))) (.and (.not (.cmp .lss (.int 200) (.var 1))) (.and (.not (.cmp .lss (.var 1) (.int 1))) (.cmp .eql (.var 1) (.fn 0 (.var 0))))))))))) (.cmp .lss (.fn 6 (.pr (.ar .sub .i64 (.var 8) (.int 1)) (.int 1))) (.fn 6 (.pr (.var 8) (.int 1)))))
theorem fact17 (ρ : Env) : E.B ρ f17 = true := by
  unfold f17
  rw [sm_B_imp]
  simp only [sm_B_and]
  rintro ⟨p0, p1, p2, p3, p4, p5, p6, p7, p8⟩
  try simp only [smA, smW] at *
  try generalize E.I ρ (.var 10) = a0 at *
  try generalize E.I ρ (.var 8) = a1 at *
  try generalize E.I ρ (.var 1) = a2 at *
  try generalize E.I ρ (.var 11) = a3 at *
  have na4 := fn0_nn (ρ := ρ) (.var 9)
  try generalize E.I ρ (.fn 0 (.var 9)) = a4 at *
  try generalize E.I ρ (.var 2) = a5 at *
  have na6 := fn0_nn (ρ := ρ) (.var 0)
  try generalize E.I ρ (.fn 0 (.var 0)) = a6 at *
  obtain ⟨a7, ea7, qa7⟩ := cs_i64 (a1 - (1))
  try simp only [ea7] at *
  omega
noncomputable def f18 : E := (.imp (.and (.not (.cmp .lss (.var 8) (.int 0))) (.and (.cmp .eql (.fn 6 (.pr (.var 10) (.fn 6 (.pr (.var 8) (.int 1))))) (.var 1)) (.and (.not (.cmp .lss (.var 8) (.int (-1)))) (.and (.not (.cmp .lss (.var 11) (.var 10))) (.and (.cmp .eql (.var 10) (.fn 0 (.var 9))) (.and (.not (.cmp .lss (.var 10) (.int 0))) (.and (.not (.cmp .lss (.var 2) (.var 1))) (.and (.not (.cmp .lss (.int 200) (.var 1))) (.and (.not (.cmp .lss (.var 1) (.int 1))) (.cmp .eql (.var 1) (.fn 0 (.var 0)))))))))))) (.not (.cmp .lss (.fn 6 (.pr (.ar .sub .i64 (.var 8) (.int 1)) (.int 1))) (.int 0))))
theorem fact18 (ρ : Env) : E.B ρ f18 = true := by
  unfold f18
  rw [sm_B_imp]
  simp only [sm_B_and]
  rintro ⟨p0, p1, p2, p3, p4, p5, p6, p7, p8, p9⟩
  try simp only [smA, smW] at *
  try generalize E.I ρ (.var 8) = a0 at *
  try generalize E.I ρ (.var 10) = a1 at *
  try generalize E.I ρ (.var 1) = a2 at *
  try generalize E.I ρ (.var 11) = a3 at *
  have na4 := fn0_nn (ρ := ρ) (.var 9)
  try generalize E.I ρ (.fn 0 (.var 9)) = a4 at *
  try generalize E.I ρ (.var 2) = a5 at *
  have na6 := fn0_nn (ρ := ρ) (.var 0)
  try generalize E.I ρ (.fn 0 (.var 0)) = a6 at *
  obtain ⟨a7, ea7, qa7⟩ := cs_i64 (a0 - (1))
  try simp only [ea7] at *
  omega
noncomputable def facts : List E := [f0, f1, f2, f3, f4, f5, f6, f7, f8, f9, f10, f11, f12, f13, f14, f15, f16, f17, f18]
theorem facts_ok : ∀ e ∈ facts, ∀ ρ : Env, E.B ρ e = true := (all_cons fact0 (all_cons fact1 (all_cons fact2 (all_cons fact3 (all_cons fact4 (all_cons fact5 (all_cons fact6 (all_cons fact7 (all_cons fact8 (all_cons fact9 (all_cons fact10 (all_cons fact11 (all_cons fact12 (all_cons fact13 (all_cons fact14 (all_cons fact15 (all_cons fact16 (all_cons fact17 (all_cons fact18 all_nil)))))))))))))))))))
end p1
set_option maxRecDepth 100000 in
theorem spec1_0 : NatOk Try.prog (specNat (spR)) :=
  spec_of_check good (facts := p1.facts) p1.facts_ok (anns := [⟨19, 0, [tR0, tR1], none⟩]) (plainAnns_ok _ (by kernel_rfl)) (nats := natl2) natl2_ok (n := 3000) (by kernel_rfl)
noncomputable def natl3 : List Nat1 := specNat (spR) :: natl2
theorem natl3_ok : ∀ x ∈ natl3, NatOk Try.prog x := by
  intro x hx
  rcases List.mem_cons.1 hx with rfl | hx
  · exact spec1_0
  exact natl2_ok x hx

namespace p2
noncomputable def f0 : E := (.imp (.and (.not (.cmp .lss (.var 5) (.var 3))) (.and (.not (.cmp .lss (.var 4) (.var 2))) (.and (.not (.cmp .lss (.var 2) (.int 0))) (.and (.not (.cmp .lss (.int 200) (.var 2))) (.and (.cmp .eql (.var 2) (.fn 0 (.var 0))) (.cmp .eql (.var 2) (.var 3))))))) (.not (.cmp .lss (.var 3) (.int 0))))
theorem fact0 (ρ : Env) : E.B ρ f0 = true := by
  unfold f0
  rw [sm_B_imp]
  simp only [sm_B_and]
  rintro ⟨p0, p1, p2, p3, p4, p5⟩
  try simp only [smA, smW] at *
  try generalize E.I ρ (.var 5) = a0 at *
  try generalize E.I ρ (.var 3) = a1 at *
  try generalize E.I ρ (.var 4) = a2 at *
  try generalize E.I ρ (.var 2) = a3 at *
  have na4 := fn0_nn (ρ := ρ) (.var 0)
  try generalize E.I ρ (.fn 0 (.var 0)) = a4 at *
  omega
noncomputable def f1 : E := (.imp (.and (.cmp .lss (.var 8) (.var 2)) (.and (.not (.cmp .lss (.var 2) (.var 8))) (.and (.not (.cmp .lss (.var 8) (.int 0))) (.and (.not (.cmp .lss (.var 5) (.var 3))) (.and (.not (.cmp .lss (.var 4) (.var 2))) (.and (.not (.cmp .lss (.var 2) (.int 0))) (.and (.not (.cmp .lss (.int 200) (.var 2))) (.and (.cmp .eql (.var 2) (.fn 0 (.var 0))) (.cmp .eql (.var 2) (.var 3)))))))))) (.cmp .lss (.var 8) (.var 3)))
theorem fact1 (ρ : Env) : E.B ρ f1 = true := by
  unfold f1
  rw [sm_B_imp]
  simp only [sm_B_and]
  rintro ⟨p0, p1, p2, p3, p4, p5, p6, p7, p8⟩
  try simp only [smA, smW] at *
  try generalize E.I ρ (.var 8) = a0 at *
  try generalize E.I ρ (.var 2) = a1 at *
  try generalize E.I ρ (.var 5) = a2 at *
  try generalize E.I ρ (.var 3) = a3 at *
  try generalize E.I ρ (.var 4) = a4 at *
  have na5 := fn0_nn (ρ := ρ) (.var 0)
  try generalize E.I ρ (.fn 0 (.var 0)) = a5 at *
  omega
noncomputable def f2 : E := (.imp (.and (.fn 106 (.pr (.var 0) (.var 1))) (.and (.cmp .lss (.var 8) (.var 2)) (.and (.not (.cmp .lss (.var 2) (.var 8))) (.and (.not (.cmp .lss (.var 8) (.int 0))) (.and (.not (.cmp .lss (.var 5) (.var 3))) (.and (.not (.cmp .lss (.var 4) (.var 2))) (.and (.not (.cmp .lss (.var 2) (.int 0))) (.and (.not (.cmp .lss (.int 200) (.var 2))) (.and (.cmp .eql (.var 2) (.fn 0 (.var 0))) (.cmp .eql (.var 2) (.var 3))))))))))) (.cmp .eql (.fn 1 (.pr (.var 0) (.var 8))) (.fn 1 (.pr (.var 1) (.var 8)))))
theorem fact2 (ρ : Env) : E.B ρ f2 = true := by
  unfold f2
  rw [sm_B_imp]
  simp only [sm_B_and]
  rintro ⟨p0, p1, p2, p3, p4, p5, p6, p7, p8, p9⟩
  have g0 := t106_nth p0 (i := (.var 8)) (j := (.var 8))
  clear p0
  try simp only [smA, smW] at *
  try generalize E.I ρ (.var 8) = a0 at *
  try generalize E.I ρ (.var 2) = a1 at *
  try generalize E.I ρ (.var 5) = a2 at *
  try generalize E.I ρ (.var 3) = a3 at *
  try generalize E.I ρ (.var 4) = a4 at *
  have na5 := fn0_nn (ρ := ρ) (.var 0)
  try generalize E.I ρ (.fn 0 (.var 0)) = a5 at *
  try generalize E.I ρ (.fn 1 (.pr (.var 0) (.var 8))) = a6 at *
  try generalize E.I ρ (.fn 1 (.pr (.var 1) (.var 8))) = a7 at *
  omega
noncomputable def f3 : E := (.imp (.and (.cmp .eql (.fn 1 (.pr (.var 0) (.var 8))) (.fn 1 (.pr (.var 1) (.var 8)))) (.and (.not (.cmp .lss (.var 2) (.var 8))) (.and (.not (.cmp .lss (.var 8) (.int 0))) (.and (.not (.cmp .lss (.var 5) (.var 3))) (.and (.not (.cmp .lss (.var 4) (.var 2))) (.and (.not (.cmp .lss (.var 2) (.int 0))) (.and (.not (.cmp .lss (.int 200) (.var 2))) (.and (.cmp .eql (.var 2) (.fn 0 (.var 0))) (.cmp .eql (.var 2) (.var 3)))))))))) (.not (.cmp .lss (.ar .add .i64 (.var 8) (.int 1)) (.int 0))))
theorem fact3 (ρ : Env) : E.B ρ f3 = true := by
  unfold f3
  rw [sm_B_imp]
  simp only [sm_B_and]
  rintro ⟨p0, p1, p2, p3, p4, p5, p6, p7, p8⟩
  try simp only [smA, smW] at *
  try generalize E.I ρ (.fn 1 (.pr (.var 0) (.var 8))) = a0 at *
  try generalize E.I ρ (.fn 1 (.pr (.var 1) (.var 8))) = a1 at *
  try generalize E.I ρ (.var 2) = a2 at *
  try generalize E.I ρ (.var 8) = a3 at *
  try generalize E.I ρ (.var 5) = a4 at *
  try generalize E.I ρ (.var 3) = a5 at *
  try generalize E.I ρ (.var 4) = a6 at *
  have na7 := fn0_nn (ρ := ρ) (.var 0)
  try generalize E.I ρ (.fn 0 (.var 0)) = a7 at *
  obtain ⟨a8, ea8, qa8⟩ := cs_i64 (a3 + (1))
  try simp only [ea8] at *
  omega
noncomputable def f4 : E := (.imp (.and (.not (.cmp .lss (.var 2) (.var 8))) (.and (.not (.cmp .lss (.var 8) (.int 0))) (.and (.not (.cmp .lss (.var 5) (.var 3))) (.and (.not (.cmp .lss (.var 4) (.var 2))) (.and (.not (.cmp .lss (.var 2) (.int 0))) (.and (.not (.cmp .lss (.int 200) (.var 2))) (.and (.cmp .eql (.var 2) (.fn 0 (.var 0))) (.cmp .eql (.var 2) (.var 3))))))))) (.not (.cmp .lss (.ar .add .i64 (.var 8) (.int 1)) (.int 0))))
theorem fact4 (ρ : Env) : E.B ρ f4 = true := by
  unfold f4
  rw [sm_B_imp]
  simp only [sm_B_and]
  rintro ⟨p0, p1, p2, p3, p4, p5, p6, p7⟩
  try simp only [smA, smW] at *
  try generalize E.I ρ (.var 2) = a0 at *
  try generalize E.I ρ (.var 8) = a1 at *
  try generalize E.I ρ (.var 5) = a2 at *
  try generalize E.I ρ (.var 3) = a3 at *
  try generalize E.I ρ (.var 4) = a4 at *
  have na5 := fn0_nn (ρ := ρ) (.var 0)
  try generalize E.I ρ (.fn 0 (.var 0)) = a5 at *
  obtain ⟨a6, ea6, qa6⟩ := cs_i64 (a1 + (1))
  try simp only [ea6] at *
  omega
noncomputable def f5 : E := (.imp (.and (.cmp .lss (.var 8) (.var 2)) (.and (.not (.cmp .lss (.var 2) (.var 8))) (.and (.not (.cmp .lss (.var 8) (.int 0))) (.and (.not (.cmp .lss (.var 5) (.var 3))) (.and (.not (.cmp .lss (.var 4) (.var 2))) (.and (.not (.cmp .lss (.var 2) (.int 0))) (.and (.not (.cmp .lss (.int 200) (.var 2))) (.and (.cmp .eql (.var 2) (.fn 0 (.var 0))) (.cmp .eql (.var 2) (.var 3)))))))))) (.not (.cmp .lss (.var 2) (.ar .add .i64 (.var 8) (.int 1)))))
theorem fact5 (ρ : Env) : E.B ρ f5 = true := by
  unfold f5
  rw [sm_B_imp]
  simp only [sm_B_and]
  rintro ⟨p0, p1, p2, p3, p4, p5, p6, p7, p8⟩
  try simp only [smA, smW] at *
  try generalize E.I ρ (.var 8) = a0 at *
  try generalize E.I ρ (.var 2) = a1 at *
  try generalize E.I ρ (.var 5) = a2 at *
  try generalize E.I ρ (.var 3) = a3 at *
  try generalize E.I ρ (.var 4) = a4 at *
  have na5 := fn0_nn (ρ := ρ) (.var 0)
  try generalize E.I ρ (.fn 0 (.var 0)) = a5 at *
  obtain ⟨a6, ea6, qa6⟩ := cs_i64 (a0 + (1))
  try simp only [ea6] at *
  omega
noncomputable def f6 : E := (.imp (.and (.not (.cmp .lss (.var 2) (.var 8))) (.and (.not (.cmp .lss (.var 8) (.int 0))) (.and (.not (.cmp .lss (.var 5) (.var 3))) (.and (.not (.cmp .lss (.var 4) (.var 2))) (.and (.not (.cmp .lss (.var 2) (.int 0))) (.and (.not (.cmp .lss (.int 200) (.var 2))) (.and (.cmp .eql (.var 2) (.fn 0 (.var 0))) (.cmp .eql (.var 2) (.var 3))))))))) (.cmp .lss (.fn 7 (.pr (.var 2) (.ar .add .i64 (.var 8) (.int 1)))) (.fn 7 (.pr (.var 2) (.var 8)))))
theorem fact6 (ρ : Env) : E.B ρ f6 = true := by
  unfold f6
  rw [sm_B_imp]
  simp only [sm_B_and]
  rintro ⟨p0, p1, p2, p3, p4, p5, p6, p7⟩
  try simp only [smA, smW] at *
  try generalize E.I ρ (.var 2) = a0 at *
  try generalize E.I ρ (.var 8) = a1 at *
  try generalize E.I ρ (.var 5) = a2 at *
  try generalize E.I ρ (.var 3) = a3 at *
  try generalize E.I ρ (.var 4) = a4 at *
  have na5 := fn0_nn (ρ := ρ) (.var 0)
  try generalize E.I ρ (.fn 0 (.var 0)) = a5 at *
  obtain ⟨a6, ea6, qa6⟩ := cs_i64 (a1 + (1))
  try simp only [ea6] at *
  omega
noncomputable def f7 : E := (.imp (.and (.cmp .lss (.var 8) (.var 2)) (.and (.not (.cmp .lss (.var 2) (.var 8))) (.and (.not (.cmp .lss (.var 8) (.int 0))) (.and (.not (.cmp .lss (.var 5) (.var 3))) (.and (.not (.cmp .lss (.var 4) (.var 2))) (.and (.not (.cmp .lss (.var 2) (.int 0))) (.and (.not (.cmp .lss (.int 200) (.var 2))) (.and (.cmp .eql (.var 2) (.fn 0 (.var 0))) (.cmp .eql (.var 2) (.var 3)))))))))) (.not (.cmp .lss (.fn 7 (.pr (.var 2) (.ar .add .i64 (.var 8) (.int 1)))) (.int 0))))
theorem fact7 (ρ : Env) : E.B ρ f7 = true := by
  unfold f7
  rw [sm_B_imp]
  simp only [sm_B_and]
  rintro ⟨p0, p1, p2, p3, p4, p5, p6, p7, p8⟩
  try simp only [smA, smW] at *
  try generalize E.I ρ (.var 8) = a0 at *
  try generalize E.I ρ (.var 2) = a1 at *
  try generalize E.I ρ (.var 5) = a2 at *
  try generalize E.I ρ (.var 3) = a3 at *
  try generalize E.I ρ (.var 4) = a4 at *
  have na5 := fn0_nn (ρ := ρ) (.var 0)
  try generalize E.I ρ (.fn 0 (.var 0)) = a5 at *
  obtain ⟨a6, ea6, qa6⟩ := cs_i64 (a0 + (1))
  try simp only [ea6] at *
  omega
noncomputable def facts : List E := [f0, f1, f2, f3, f4, f5, f6, f7]
theorem facts_ok : ∀ e ∈ facts, ∀ ρ : Env, E.B ρ e = true := (all_cons fact0 (all_cons fact1 (all_cons fact2 (all_cons fact3 (all_cons fact4 (all_cons fact5 (all_cons fact6 (all_cons fact7 all_nil))))))))
end p2
set_option maxRecDepth 100000 in
theorem spec2_0 : NatOk Try.prog (specNat (spE)) :=
  spec_of_check good (facts := p2.facts) p2.facts_ok (anns := [⟨16, 0, [tE], none⟩]) (plainAnns_ok _ (by kernel_rfl)) (nats := natl3) natl3_ok (n := 3000) (by kernel_rfl)
noncomputable def natl4 : List Nat1 := specNat (spE) :: natl3
theorem natl4_ok : ∀ x ∈ natl4, NatOk Try.prog x := by
  intro x hx
  rcases List.mem_cons.1 hx with rfl | hx
  · exact spec2_0
  exact natl3_ok x hx

namespace p3
noncomputable def f0 : E := (.imp (.and (.cmp .lss (.var 8) (.var 1)) (.and (.not (.cmp .lss (.var 8) (.int 0))) (.and (.not (.cmp .lss (.var 5) (.var 4))) (.and (.not (.cmp .lss (.int 200) (.var 4))) (.and (.not (.cmp .lss (.var 4) (.var 1))) (.not (.cmp .lss (.var 1) (.int 1)))))))) (.cmp .lss (.var 8) (.var 4)))
theorem fact0 (ρ : Env) : E.B ρ f0 = true := by
  unfold f0
  rw [sm_B_imp]
  simp only [sm_B_and]
  rintro ⟨p0, p1, p2, p3, p4, p5⟩
  try simp only [smA, smW] at *
  try generalize E.I ρ (.var 8) = a0 at *
  try generalize E.I ρ (.var 1) = a1 at *
  try generalize E.I ρ (.var 5) = a2 at *
  try generalize E.I ρ (.var 4) = a3 at *
  omega
noncomputable def f1 : E := (.imp (.and (.fn 103 (.pr (.var 0) (.pr (.var 1) (.var 3)))) (.and (.cmp .eql (.var 3) (.fn 1 (.pr (.var 0) (.var 8)))) (.and (.cmp .lss (.var 8) (.var 1)) (.and (.not (.cmp .lss (.var 8) (.int 0))) (.and (.not (.cmp .lss (.var 5) (.var 4))) (.and (.not (.cmp .lss (.int 200) (.var 4))) (.and (.not (.cmp .lss (.var 4) (.var 1))) (.not (.cmp .lss (.var 1) (.int 1)))))))))) (.cmp .eql (.var 8) (.fn 7 (.pr (.var 1) (.int 1)))))
theorem fact1 (ρ : Env) : E.B ρ f1 = true := by
  unfold f1
  rw [sm_B_imp]
  simp only [sm_B_and]
  rintro ⟨p0, p1, p2, p3, p4, p5, p6, p7⟩
  have g0 := t103_at p0 (i := (.var 8))
  clear p0
  try simp only [smA, smW] at *
  try generalize E.I ρ (.var 3) = a0 at *
  try generalize E.I ρ (.fn 1 (.pr (.var 0) (.var 8))) = a1 at *
  try generalize E.I ρ (.var 8) = a2 at *
  try generalize E.I ρ (.var 1) = a3 at *
  try generalize E.I ρ (.var 5) = a4 at *
  try generalize E.I ρ (.var 4) = a5 at *
  omega
noncomputable def f2 : E := (.imp (.and (.cmp .lss (.var 8) (.var 1)) (.and (.not (.cmp .lss (.var 8) (.int 0))) (.and (.not (.cmp .lss (.var 5) (.var 4))) (.and (.not (.cmp .lss (.int 200) (.var 4))) (.and (.not (.cmp .lss (.var 4) (.var 1))) (.not (.cmp .lss (.var 1) (.int 1)))))))) (.not (.cmp .lss (.ar .add .i64 (.var 8) (.int 1)) (.int 0))))
theorem fact2 (ρ : Env) : E.B ρ f2 = true := by
  unfold f2
  rw [sm_B_imp]
  simp only [sm_B_and]
  rintro ⟨p0, p1, p2, p3, p4, p5⟩
  try simp only [smA, smW] at *
  try generalize E.I ρ (.var 8) = a0 at *
  try generalize E.I ρ (.var 1) = a1 at *
  try generalize E.I ρ (.var 5) = a2 at *
  try generalize E.I ρ (.var 4) = a3 at *
  obtain ⟨a4, ea4, qa4⟩ := cs_i64 (a0 + (1))
  try simp only [ea4] at *
  omega
noncomputable def f3 : E := (.imp (.and (.fn 103 (.pr (.var 0) (.pr (.var 1) (.var 3)))) (.and (.not (.cmp .eql (.var 3) (.fn 1 (.pr (.var 0) (.var 8))))) (.and (.cmp .lss (.var 8) (.var 1)) (.and (.not (.cmp .lss (.var 8) (.int 0))) (.and (.not (.cmp .lss (.var 5) (.var 4))) (.and (.not (.cmp .lss (.int 200) (.var 4))) (.and (.not (.cmp .lss (.var 4) (.var 1))) (.not (.cmp .lss (.var 1) (.int 1)))))))))) (.cmp .lss (.ar .add .i64 (.var 8) (.int 1)) (.var 1)))
theorem fact3 (ρ : Env) : E.B ρ f3 = true := by
  unfold f3
  rw [sm_B_imp]
  simp only [sm_B_and]
  rintro ⟨p0, p1, p2, p3, p4, p5, p6, p7⟩
  have g0 := t103_at p0 (i := (.var 8))
  obtain ⟨v0, ev0, qv0⟩ := cs_i64 (E.I ρ (.var 8) + E.I ρ (.int 1))
  have ew0 : E.I ρ (.ar .add .i64 (.var 8) (.int 1)) = v0 := ev0
  try simp only [ew0] at g0
  clear p0
  try simp only [smA, smW] at *
  try generalize E.I ρ (.var 3) = a0 at *
  try generalize E.I ρ (.fn 1 (.pr (.var 0) (.var 8))) = a1 at *
  try generalize E.I ρ (.var 8) = a2 at *
  try generalize E.I ρ (.var 1) = a3 at *
  try generalize E.I ρ (.var 5) = a4 at *
  try generalize E.I ρ (.var 4) = a5 at *
  obtain ⟨a6, ea6, qa6⟩ := cs_i64 (a2 + (1))
  try simp only [ea6] at *
  omega
noncomputable def f4 : E := (.imp (.and (.cmp .lss (.var 8) (.var 1)) (.and (.not (.cmp .lss (.var 8) (.int 0))) (.and (.not (.cmp .lss (.var 5) (.var 4))) (.and (.not (.cmp .lss (.int 200) (.var 4))) (.and (.not (.cmp .lss (.var 4) (.var 1))) (.not (.cmp .lss (.var 1) (.int 1)))))))) (.cmp .lss (.fn 7 (.pr (.var 1) (.ar .add .i64 (.var 8) (.int 1)))) (.fn 7 (.pr (.var 1) (.var 8)))))
theorem fact4 (ρ : Env) : E.B ρ f4 = true := by
  unfold f4
  rw [sm_B_imp]
  simp only [sm_B_and]
  rintro ⟨p0, p1, p2, p3, p4, p5⟩
  try simp only [smA, smW] at *
  try generalize E.I ρ (.var 8) = a0 at *
  try generalize E.I ρ (.var 1) = a1 at *
  try generalize E.I ρ (.var 5) = a2 at *
  try generalize E.I ρ (.var 4) = a3 at *
  obtain ⟨a4, ea4, qa4⟩ := cs_i64 (a0 + (1))
  try simp only [ea4] at *
  omega
noncomputable def f5 : E := (.imp (.and (.cmp .lss (.var 8) (.var 1)) (.and (.not (.cmp .lss (.var 8) (.int 0))) (.and (.not (.cmp .lss (.var 5) (.var 4))) (.and (.not (.cmp .lss (.int 200) (.var 4))) (.and (.not (.cmp .lss (.var 4) (.var 1))) (.not (.cmp .lss (.var 1) (.int 1)))))))) (.not (.cmp .lss (.fn 7 (.pr (.var 1) (.ar .add .i64 (.var 8) (.int 1)))) (.int 0))))
theorem fact5 (ρ : Env) : E.B ρ f5 = true := by
  unfold f5
  rw [sm_B_imp]
  simp only [sm_B_and]
  rintro ⟨p0, p1, p2, p3, p4, p5⟩
  try simp only [smA, smW] at *
  try generalize E.I ρ (.var 8) = a0 at *
  try generalize E.I ρ (.var 1) = a1 at *
  try generalize E.I ρ (.var 5) = a2 at *
  try generalize E.I ρ (.var 4) = a3 at *
  obtain ⟨a4, ea4, qa4⟩ := cs_i64 (a0 + (1))
  try simp only [ea4] at *
  omega
noncomputable def facts : List E := [f0, f1, f2, f3, f4, f5]
theorem facts_ok : ∀ e ∈ facts, ∀ ρ : Env, E.B ρ e = true := (all_cons fact0 (all_cons fact1 (all_cons fact2 (all_cons fact3 (all_cons fact4 (all_cons fact5 all_nil))))))
end p3
set_option maxRecDepth 100000 in
theorem spec3_0 : NatOk Try.prog (specNat (spI)) :=
  spec_of_check good (facts := p3.facts) p3.facts_ok (anns := [⟨31, 0, [tI], none⟩]) (plainAnns_ok _ (by kernel_rfl)) (nats := natl4) natl4_ok (n := 3000) (by kernel_rfl)
noncomputable def natl5 : List Nat1 := specNat (spI) :: natl4
theorem natl5_ok : ∀ x ∈ natl5, NatOk Try.prog x := by
  intro x hx
  rcases List.mem_cons.1 hx with rfl | hx
  · exact spec3_0
  exact natl4_ok x hx

end Go.Proofs.Ytfifefjbckmfeaa.zoneMany

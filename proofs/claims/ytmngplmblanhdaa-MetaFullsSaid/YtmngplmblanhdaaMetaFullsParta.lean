/-
  MetaFulls: contracts of functions, part 1.
-/
import Derived.Test.YtmngplmblanhdaaRows
import Derived.Test.YtmngplmblanhdaaSXd
import Derived.WalkKit
import Derived.ProofKit
import Derived.OpenShut
import Derived.ChangeOld
import Derived.Below
import Derived.KernelRfl
import Derived.Lib.SmallJoins
import Derived.Test.YtmngplmblanhdaaTheory
namespace Go.Proofs.Ytmngplmblanhdaa.metaFulls
open Go.ChangeShapes Go.WideShapes Go.ChangeAt Go.RowKit
open Go.SX
set_option linter.unusedVariables false
set_option linter.unusedSimpArgs false
set_option maxRecDepth 100000
theorem own : ownKnob Try.prog.godebug = none := by kernel_rfl
theorem laidOut : laidOutB Try.prog = true := by kernel_rfl
theorem good : progOk Try.prog = true := by kernel_rfl


noncomputable def ii (e : E) : SV := .int .i64 e
noncomputable def gone : Blk := ⟨true, .gone⟩
noncomputable def at0 (b : Nat) : SV := .ptr b ⟨0, 0, .int 0⟩
noncomputable def eEq (a b : E) : E := .cmp .eql a b
noncomputable def mul2 (e : E) : E := .fn 8 (.pr e (.int 2))
/-- the first i of n games are of a -/
noncomputable def rows (x i n : E) (a : Int) : E := .fn 100 (.pr x (.pr i (.pr n (.int a))))
noncomputable def row2 (a b : E) : Blk := ⟨true, .cells [ii a, ii b] (.int 2) 3⟩
noncomputable def scB (r0 r1 : Nat) : Blk := ⟨true, .cells [.nslice r0 (.int 2) (.int 2), .nslice r1 (.int 2) (.int 2)] (.int 2) 23⟩
noncomputable def fB (s : Nat) (g : E) : Blk := ⟨true, .cells [.nslice s (.int 2) (.int 2), ii g] (.int 2) 57⟩
noncomputable def gms (x n : E) : Blk := ⟨true, .flat [.int .i64, .int .i64, .int .i64] x n n 47⟩
/-- the field with two decks: blocks s (rows), s+1 (field), s+2, s+3 -/
noncomputable def field (g a b c d : E) : List Blk := [scB 2 3, fB 0 g, row2 a b, row2 c d]
noncomputable def pcA : List E := [rows (eV 0) (eV 1) (eV 1) 0, eLe (.int 1) (eV 1), eLe (eV 1) (.int 50001)]
noncomputable def heapA (s : E) : T Blk := heapL (field (.int 0) (.int 0) s (.int 0) (.int 0) ++ [gms (eV 0) (eV 1)])
noncomputable def spA : Pact := ⟨10, [at0 1, .nslice 4 (eV 1) (eV 1)], ⟨2, 5, heapA (.int 0), pcA⟩,
  [(ii (.int 0), ⟨4, 5, heapL (field (eV 2) (.int 0) (eV 3) (.int 0) (.int 0) ++ [gms (eV 0) (eV 1)]), [eEq (eV 2) (eV 1), eEq (eV 3) (mul2 (eV 1))]⟩)]⟩
noncomputable def pcAdd : List E := [rows (eV 0) (eV 1) (eV 1) 1, eLe (.int 1) (eV 1), eLe (eV 1) (.int 50002), eLe (.int 1) (eV 2), eLe (eV 2) (.int 100001), eEq (eV 3) (mul2 (eV 2))]
noncomputable def heapB (g s : E) : T Blk := heapL (field g (.int 0) (eV 3) s (.int 0) ++ [gms (eV 0) (eV 1)])
noncomputable def spB : Pact := ⟨10, [at0 1, .nslice 4 (eV 1) (eV 1)], ⟨4, 5, heapB (eV 2) (.int 0), pcAdd⟩,
  [(ii (.int 0), ⟨6, 5, heapB (eV 4) (eV 5), [eEq (eV 4) (.fn 6 (.pr (eV 2) (eV 1))), eEq (eV 5) (mul2 (eV 1)), eLe (.fn 6 (.pr (eV 2) (eV 1))) (.int 100000)]⟩), (ii (.int 7), ⟨4, 5, heapB (eV 2) (.int 0), [eLt (.int 100000) (.fn 6 (.pr (eV 2) (eV 1)))]⟩)]⟩
noncomputable def tm1 (i : E) : Tm := tmSlots 133 [(0, at0 1), (1, .nslice 4 (eV 1) (eV 1)), (11, .nslice 4 (eV 1) (eV 1)), (12, ii (eV 1)), (13, ii i)]
noncomputable def tm2 (i : E) : Tm := tmSlots 133 [(0, at0 1), (1, .nslice 4 (eV 1) (eV 1)), (55, .nslice 4 (eV 1) (eV 1)), (56, ii (eV 1)), (57, ii i)]
noncomputable def tA1 : Tmpl := ⟨tm1 (eV 2), ⟨3, 5, heapA (.int 0), pcA ++ [eLe (.int 0) (eV 2), eLe (eV 2) (eV 1)]⟩, .fn 7 (.pr (eV 1) (eV 2))⟩
noncomputable def tA2 : Tmpl := ⟨tm2 (eV 8), ⟨10, 5, heapA (eV 9), pcA ++ [eLe (.int 0) (eV 8), eLe (eV 8) (eV 1), .cmp .eql (eV 9) (mul2 (eV 8))]⟩, .fn 7 (.pr (eV 1) (eV 8))⟩
noncomputable def tB1 : Tmpl := ⟨tm1 (eV 4), ⟨5, 5, heapB (eV 2) (.int 0), pcAdd ++ [eLe (.int 0) (eV 4), eLe (eV 4) (eV 1)]⟩, .fn 7 (.pr (eV 1) (eV 4))⟩
noncomputable def tB2 : Tmpl := ⟨tm2 (eV 8), ⟨10, 5, heapB (eV 2) (eV 9), pcAdd ++ [eLe (.fn 6 (.pr (eV 2) (eV 1))) (.int 100000), eLe (.int 0) (eV 8), eLe (eV 8) (eV 1), eEq (eV 9) (mul2 (eV 8))]⟩, .fn 7 (.pr (eV 1) (eV 8))⟩
noncomputable def annsA : List Ann := [⟨10, 0, [tA1], none⟩, ⟨10, 2, [tA2], none⟩]
noncomputable def annsB : List Ann := [⟨10, 0, [tB1], none⟩, ⟨10, 2, [tB2], none⟩]
noncomputable def pc0 : List E := i64R [0, 1]
noncomputable def args : List SV := [ii (eV 0), ii (eV 1)]
noncomputable def pcL : List E := [eLe (.int 1) (eV 0), eLe (eV 0) (.int 50001), eLe (.int 1) (eV 1), eLe (eV 1) (.int 50002)]
/-- the law's own loops -/
noncomputable def tL1 : Tmpl := ⟨tmSlots 110 [(0, ii (eV 0)), (1, ii (eV 1)), (5, at0 1), (6, ii (.int 0)), (7, .nslice 4 (eV 0) (eV 0)), (8, ii (eV 9))],
  ⟨10, 5, heapL (field (.int 0) (.int 0) (.int 0) (.int 0) (.int 0) ++ [gms (eV 8) (eV 0)]), pcL ++ [rows (eV 8) (eV 9) (eV 0) 0, eLe (.int 0) (eV 9), eLe (eV 9) (eV 0)]⟩, .fn 7 (.pr (eV 0) (eV 9))⟩
noncomputable def tL2 : Tmpl := ⟨tmSlots 110 [(0, ii (eV 0)), (1, ii (eV 1)), (5, at0 1), (9, .nslice 5 (eV 1) (eV 1)), (10, ii (eV 17))],
  ⟨20, 6, heapL (field (eV 18) (.int 0) (eV 19) (.int 0) (.int 0) ++ [gone, gms (eV 16) (eV 1)]), pcL ++ [eEq (eV 18) (eV 0), eEq (eV 19) (mul2 (eV 0)), rows (eV 16) (eV 17) (eV 1) 1, eLe (.int 0) (eV 17), eLe (eV 17) (eV 1)]⟩, .fn 7 (.pr (eV 1) (eV 17))⟩
noncomputable def anns : List Ann := [⟨5, 0, [tL1], none⟩, ⟨5, 2, [tL2], none⟩]

noncomputable def natl0 : List Nat1 := []
theorem natl0_ok : ∀ x ∈ natl0, NatOk Try.prog x := (fun x hx => by cases hx)

set_option maxRecDepth 100000 in
theorem reckoned0 : withTab Try.prog (fun tb => checkAll outTrue (run Try.prog (tb.plus [] [] natl0) 3000 (.call 8 []) .nil (varSt 0 []) SX.one)) = true := by kernel_rfl
noncomputable def natl1 : List Nat1 := closedNat 8 :: natl0
theorem natl1_ok : ∀ x ∈ natl1, NatOk Try.prog x := by
  intro x hx
  rcases List.mem_cons.1 hx with rfl | hx
  · exact closed_of_check good (facts := []) all_nil (anns := []) (plainAnns_ok [] rfl) (nats := natl0) natl0_ok reckoned0
  · exact natl0_ok x hx

namespace p0
noncomputable def f0 : E := (.imp (.and (.cmp .eql (.var 3) (.fn 8 (.pr (.var 2) (.int 2)))) (.and (.not (.cmp .lss (.var 2) (.int 1))) (.and (.fn 100 (.pr (.var 0) (.pr (.var 1) (.pr (.var 1) (.int 1))))) (.and (.cmp .lss (.var 4) (.var 1)) (.and (.not (.cmp .lss (.int 50002) (.var 1))) (.and (.not (.cmp .lss (.var 1) (.int 1))) (.and (.not (.cmp .lss (.var 1) (.var 4))) (.and (.not (.cmp .lss (.var 4) (.int 0))) (.and (.not (.cmp .lss (.int 50002) (.var 1))) (.not (.cmp .lss (.var 1) (.int 1)))))))))))) (.not (.cmp .lss (.fn 1 (.pr (.var 0) (.fn 6 (.pr (.fn 8 (.pr (.var 4) (.int 3))) (.int 0))))) (.int 0))))
theorem fact0 (ρ : Env) : E.B ρ f0 = true := by
  unfold f0
  rw [sm_B_imp]
  simp only [sm_B_and]
  rintro ⟨p0, p1, p2, p3, p4, p5, p6, p7, p8, p9⟩
  have g0 := rows_get p2 (.var 4)
  clear p2
  simp only [sm_I_int, sm_I_fn6, sm_I_fn7, sm_I_fn8, sm_B_bool, sm_B_eql, sm_B_lss, sm_B_not, sm_B_and, sm_B_imp, sm_B_iff, sm_I_add_i64, sm_I_sub_i64, sm_I_mul_i64, sm_I_rem, sm_I_wr, sm_I_mx, sm_I_mn] at *
  try generalize E.I ρ (.var 3) = a0 at *
  try generalize E.I ρ (.var 2) = a1 at *
  try generalize E.I ρ (.var 4) = a2 at *
  try generalize E.I ρ (.var 1) = a3 at *
  try generalize E.I ρ (.fn 1 (.pr (.var 0) (.fn 6 (.pr (.fn 8 (.pr (.var 4) (.int 3))) (.int 0))))) = a4 at *
  omega
noncomputable def f1 : E := (.imp (.and (.cmp .eql (.var 3) (.fn 8 (.pr (.var 2) (.int 2)))) (.and (.not (.cmp .lss (.var 2) (.int 1))) (.and (.fn 100 (.pr (.var 0) (.pr (.var 1) (.pr (.var 1) (.int 1))))) (.and (.cmp .lss (.var 4) (.var 1)) (.and (.not (.cmp .lss (.fn 1 (.pr (.var 0) (.fn 6 (.pr (.fn 8 (.pr (.var 4) (.int 3))) (.int 0))))) (.int 0))) (.and (.cmp .lss (.fn 1 (.pr (.var 0) (.fn 6 (.pr (.fn 8 (.pr (.var 4) (.int 3))) (.int 0))))) (.int 2)) (.and (.not (.cmp .lss (.int 50002) (.var 1))) (.and (.not (.cmp .lss (.var 1) (.int 1))) (.and (.not (.cmp .lss (.var 1) (.var 4))) (.and (.not (.cmp .lss (.var 4) (.int 0))) (.and (.not (.cmp .lss (.int 50002) (.var 1))) (.not (.cmp .lss (.var 1) (.int 1)))))))))))))) (.not (.cmp .lss (.fn 1 (.pr (.var 0) (.fn 6 (.pr (.fn 8 (.pr (.var 4) (.int 3))) (.int 1))))) (.int 0))))
theorem fact1 (ρ : Env) : E.B ρ f1 = true := by
  unfold f1
  rw [sm_B_imp]
  simp only [sm_B_and]
  rintro ⟨p0, p1, p2, p3, p4, p5, p6, p7, p8, p9, p10, p11⟩
  have g0 := rows_get p2 (.var 4)
  clear p2
  simp only [sm_I_int, sm_I_fn6, sm_I_fn7, sm_I_fn8, sm_B_bool, sm_B_eql, sm_B_lss, sm_B_not, sm_B_and, sm_B_imp, sm_B_iff, sm_I_add_i64, sm_I_sub_i64, sm_I_mul_i64, sm_I_rem, sm_I_wr, sm_I_mx, sm_I_mn] at *
  try generalize E.I ρ (.var 3) = a0 at *
  try generalize E.I ρ (.var 2) = a1 at *
  try generalize E.I ρ (.var 4) = a2 at *
  try generalize E.I ρ (.var 1) = a3 at *
  try generalize E.I ρ (.fn 1 (.pr (.var 0) (.fn 6 (.pr (.fn 8 (.pr (.var 4) (.int 3))) (.int 0))))) = a4 at *
  try generalize E.I ρ (.fn 1 (.pr (.var 0) (.fn 6 (.pr (.fn 8 (.pr (.var 4) (.int 3))) (.int 1))))) = a5 at *
  omega
noncomputable def f2 : E := (.imp (.and (.cmp .eql (.var 3) (.fn 8 (.pr (.var 2) (.int 2)))) (.and (.not (.cmp .lss (.var 2) (.int 1))) (.and (.fn 100 (.pr (.var 0) (.pr (.var 1) (.pr (.var 1) (.int 1))))) (.and (.cmp .lss (.var 4) (.var 1)) (.and (.not (.cmp .lss (.fn 1 (.pr (.var 0) (.fn 6 (.pr (.fn 8 (.pr (.var 4) (.int 3))) (.int 0))))) (.int 0))) (.and (.cmp .lss (.fn 1 (.pr (.var 0) (.fn 6 (.pr (.fn 8 (.pr (.var 4) (.int 3))) (.int 0))))) (.int 2)) (.and (.not (.cmp .lss (.fn 1 (.pr (.var 0) (.fn 6 (.pr (.fn 8 (.pr (.var 4) (.int 3))) (.int 1))))) (.int 0))) (.and (.cmp .lss (.fn 1 (.pr (.var 0) (.fn 6 (.pr (.fn 8 (.pr (.var 4) (.int 3))) (.int 1))))) (.int 2)) (.and (.not (.cmp .eql (.fn 1 (.pr (.var 0) (.fn 6 (.pr (.fn 8 (.pr (.var 4) (.int 3))) (.int 0))))) (.fn 1 (.pr (.var 0) (.fn 6 (.pr (.fn 8 (.pr (.var 4) (.int 3))) (.int 1))))))) (.and (.not (.cmp .lss (.fn 1 (.pr (.var 0) (.fn 6 (.pr (.fn 8 (.pr (.var 4) (.int 3))) (.int 2))))) (.int 1))) (.and (.not (.cmp .lss (.int 50002) (.var 1))) (.and (.not (.cmp .lss (.var 1) (.int 1))) (.and (.not (.cmp .lss (.var 1) (.var 4))) (.and (.not (.cmp .lss (.var 4) (.int 0))) (.and (.not (.cmp .lss (.int 50002) (.var 1))) (.not (.cmp .lss (.var 1) (.int 1)))))))))))))))))) (.not (.cmp .lss (.int 3) (.fn 1 (.pr (.var 0) (.fn 6 (.pr (.fn 8 (.pr (.var 4) (.int 3))) (.int 2))))))))
theorem fact2 (ρ : Env) : E.B ρ f2 = true := by
  unfold f2
  rw [sm_B_imp]
  simp only [sm_B_and]
  rintro ⟨p0, p1, p2, p3, p4, p5, p6, p7, p8, p9, p10, p11, p12, p13, p14, p15⟩
  have g0 := rows_get p2 (.var 4)
  clear p2
  simp only [sm_I_int, sm_I_fn6, sm_I_fn7, sm_I_fn8, sm_B_bool, sm_B_eql, sm_B_lss, sm_B_not, sm_B_and, sm_B_imp, sm_B_iff, sm_I_add_i64, sm_I_sub_i64, sm_I_mul_i64, sm_I_rem, sm_I_wr, sm_I_mx, sm_I_mn] at *
  try generalize E.I ρ (.var 3) = a0 at *
  try generalize E.I ρ (.var 2) = a1 at *
  try generalize E.I ρ (.var 4) = a2 at *
  try generalize E.I ρ (.var 1) = a3 at *
  try generalize E.I ρ (.fn 1 (.pr (.var 0) (.fn 6 (.pr (.fn 8 (.pr (.var 4) (.int 3))) (.int 0))))) = a4 at *
  try generalize E.I ρ (.fn 1 (.pr (.var 0) (.fn 6 (.pr (.fn 8 (.pr (.var 4) (.int 3))) (.int 1))))) = a5 at *
  try generalize E.I ρ (.fn 1 (.pr (.var 0) (.fn 6 (.pr (.fn 8 (.pr (.var 4) (.int 3))) (.int 2))))) = a6 at *
  omega
noncomputable def f3 : E := (.imp (.and (.not (.cmp .lss (.int 50002) (.var 1))) (.and (.not (.cmp .lss (.var 1) (.int 1))) (.and (.not (.cmp .lss (.var 1) (.var 4))) (.and (.not (.cmp .lss (.var 4) (.int 0))) (.and (.not (.cmp .lss (.int 50002) (.var 1))) (.not (.cmp .lss (.var 1) (.int 1)))))))) (.not (.cmp .lss (.ar .add .i64 (.var 4) (.int 1)) (.int 0))))
theorem fact3 (ρ : Env) : E.B ρ f3 = true := by
  unfold f3
  rw [sm_B_imp]
  simp only [sm_B_and]
  rintro ⟨p0, p1, p2, p3, p4, p5⟩
  simp only [sm_I_int, sm_I_fn6, sm_I_fn7, sm_I_fn8, sm_B_bool, sm_B_eql, sm_B_lss, sm_B_not, sm_B_and, sm_B_imp, sm_B_iff, sm_I_add_i64, sm_I_sub_i64, sm_I_mul_i64, sm_I_rem, sm_I_wr, sm_I_mx, sm_I_mn] at *
  try generalize E.I ρ (.var 1) = a0 at *
  try generalize E.I ρ (.var 4) = a1 at *
  obtain ⟨a2, ea2, qa2⟩ := cs_i64 (a1 + (1))
  try simp only [ea2] at *
  omega
noncomputable def f4 : E := (.imp (.and (.cmp .eql (.var 3) (.fn 8 (.pr (.var 2) (.int 2)))) (.and (.not (.cmp .lss (.var 2) (.int 1))) (.and (.fn 100 (.pr (.var 0) (.pr (.var 1) (.pr (.var 1) (.int 1))))) (.and (.cmp .lss (.var 4) (.var 1)) (.and (.not (.cmp .lss (.fn 1 (.pr (.var 0) (.fn 6 (.pr (.fn 8 (.pr (.var 4) (.int 3))) (.int 0))))) (.int 0))) (.and (.cmp .lss (.fn 1 (.pr (.var 0) (.fn 6 (.pr (.fn 8 (.pr (.var 4) (.int 3))) (.int 0))))) (.int 2)) (.and (.not (.cmp .lss (.fn 1 (.pr (.var 0) (.fn 6 (.pr (.fn 8 (.pr (.var 4) (.int 3))) (.int 1))))) (.int 0))) (.and (.cmp .lss (.fn 1 (.pr (.var 0) (.fn 6 (.pr (.fn 8 (.pr (.var 4) (.int 3))) (.int 1))))) (.int 2)) (.and (.not (.cmp .eql (.fn 1 (.pr (.var 0) (.fn 6 (.pr (.fn 8 (.pr (.var 4) (.int 3))) (.int 0))))) (.fn 1 (.pr (.var 0) (.fn 6 (.pr (.fn 8 (.pr (.var 4) (.int 3))) (.int 1))))))) (.and (.not (.cmp .lss (.int 50002) (.var 1))) (.and (.not (.cmp .lss (.var 1) (.int 1))) (.and (.not (.cmp .lss (.var 1) (.var 4))) (.and (.not (.cmp .lss (.var 4) (.int 0))) (.and (.not (.cmp .lss (.int 50002) (.var 1))) (.not (.cmp .lss (.var 1) (.int 1))))))))))))))))) (.not (.cmp .lss (.fn 1 (.pr (.var 0) (.fn 6 (.pr (.fn 8 (.pr (.var 4) (.int 3))) (.int 2))))) (.int 1))))
theorem fact4 (ρ : Env) : E.B ρ f4 = true := by
  unfold f4
  rw [sm_B_imp]
  simp only [sm_B_and]
  rintro ⟨p0, p1, p2, p3, p4, p5, p6, p7, p8, p9, p10, p11, p12, p13, p14⟩
  have g0 := rows_get p2 (.var 4)
  clear p2
  simp only [sm_I_int, sm_I_fn6, sm_I_fn7, sm_I_fn8, sm_B_bool, sm_B_eql, sm_B_lss, sm_B_not, sm_B_and, sm_B_imp, sm_B_iff, sm_I_add_i64, sm_I_sub_i64, sm_I_mul_i64, sm_I_rem, sm_I_wr, sm_I_mx, sm_I_mn] at *
  try generalize E.I ρ (.var 3) = a0 at *
  try generalize E.I ρ (.var 2) = a1 at *
  try generalize E.I ρ (.var 4) = a2 at *
  try generalize E.I ρ (.var 1) = a3 at *
  try generalize E.I ρ (.fn 1 (.pr (.var 0) (.fn 6 (.pr (.fn 8 (.pr (.var 4) (.int 3))) (.int 0))))) = a4 at *
  try generalize E.I ρ (.fn 1 (.pr (.var 0) (.fn 6 (.pr (.fn 8 (.pr (.var 4) (.int 3))) (.int 1))))) = a5 at *
  try generalize E.I ρ (.fn 1 (.pr (.var 0) (.fn 6 (.pr (.fn 8 (.pr (.var 4) (.int 3))) (.int 2))))) = a6 at *
  omega
noncomputable def f5 : E := (.imp (.and (.cmp .eql (.var 3) (.fn 8 (.pr (.var 2) (.int 2)))) (.and (.not (.cmp .lss (.var 2) (.int 1))) (.and (.fn 100 (.pr (.var 0) (.pr (.var 1) (.pr (.var 1) (.int 1))))) (.and (.cmp .lss (.var 4) (.var 1)) (.and (.not (.cmp .lss (.fn 1 (.pr (.var 0) (.fn 6 (.pr (.fn 8 (.pr (.var 4) (.int 3))) (.int 0))))) (.int 0))) (.and (.cmp .lss (.fn 1 (.pr (.var 0) (.fn 6 (.pr (.fn 8 (.pr (.var 4) (.int 3))) (.int 0))))) (.int 2)) (.and (.not (.cmp .lss (.fn 1 (.pr (.var 0) (.fn 6 (.pr (.fn 8 (.pr (.var 4) (.int 3))) (.int 1))))) (.int 0))) (.and (.cmp .lss (.fn 1 (.pr (.var 0) (.fn 6 (.pr (.fn 8 (.pr (.var 4) (.int 3))) (.int 1))))) (.int 2)) (.and (.not (.cmp .lss (.int 50002) (.var 1))) (.and (.not (.cmp .lss (.var 1) (.int 1))) (.and (.not (.cmp .lss (.var 1) (.var 4))) (.and (.not (.cmp .lss (.var 4) (.int 0))) (.and (.not (.cmp .lss (.int 50002) (.var 1))) (.not (.cmp .lss (.var 1) (.int 1)))))))))))))))) (.not (.cmp .eql (.fn 1 (.pr (.var 0) (.fn 6 (.pr (.fn 8 (.pr (.var 4) (.int 3))) (.int 0))))) (.fn 1 (.pr (.var 0) (.fn 6 (.pr (.fn 8 (.pr (.var 4) (.int 3))) (.int 1))))))))
theorem fact5 (ρ : Env) : E.B ρ f5 = true := by
  unfold f5
  rw [sm_B_imp]
  simp only [sm_B_and]
  rintro ⟨p0, p1, p2, p3, p4, p5, p6, p7, p8, p9, p10, p11, p12, p13⟩
  have g0 := rows_get p2 (.var 4)
  clear p2
  simp only [sm_I_int, sm_I_fn6, sm_I_fn7, sm_I_fn8, sm_B_bool, sm_B_eql, sm_B_lss, sm_B_not, sm_B_and, sm_B_imp, sm_B_iff, sm_I_add_i64, sm_I_sub_i64, sm_I_mul_i64, sm_I_rem, sm_I_wr, sm_I_mx, sm_I_mn] at *
  try generalize E.I ρ (.var 3) = a0 at *
  try generalize E.I ρ (.var 2) = a1 at *
  try generalize E.I ρ (.var 4) = a2 at *
  try generalize E.I ρ (.var 1) = a3 at *
  try generalize E.I ρ (.fn 1 (.pr (.var 0) (.fn 6 (.pr (.fn 8 (.pr (.var 4) (.int 3))) (.int 0))))) = a4 at *
  try generalize E.I ρ (.fn 1 (.pr (.var 0) (.fn 6 (.pr (.fn 8 (.pr (.var 4) (.int 3))) (.int 1))))) = a5 at *
  omega
noncomputable def f6 : E := (.imp (.and (.cmp .eql (.var 3) (.fn 8 (.pr (.var 2) (.int 2)))) (.and (.not (.cmp .lss (.var 2) (.int 1))) (.and (.fn 100 (.pr (.var 0) (.pr (.var 1) (.pr (.var 1) (.int 1))))) (.and (.cmp .lss (.var 4) (.var 1)) (.and (.not (.cmp .lss (.fn 1 (.pr (.var 0) (.fn 6 (.pr (.fn 8 (.pr (.var 4) (.int 3))) (.int 0))))) (.int 0))) (.and (.cmp .lss (.fn 1 (.pr (.var 0) (.fn 6 (.pr (.fn 8 (.pr (.var 4) (.int 3))) (.int 0))))) (.int 2)) (.and (.not (.cmp .lss (.fn 1 (.pr (.var 0) (.fn 6 (.pr (.fn 8 (.pr (.var 4) (.int 3))) (.int 1))))) (.int 0))) (.and (.not (.cmp .lss (.int 50002) (.var 1))) (.and (.not (.cmp .lss (.var 1) (.int 1))) (.and (.not (.cmp .lss (.var 1) (.var 4))) (.and (.not (.cmp .lss (.var 4) (.int 0))) (.and (.not (.cmp .lss (.int 50002) (.var 1))) (.not (.cmp .lss (.var 1) (.int 1))))))))))))))) (.cmp .lss (.fn 1 (.pr (.var 0) (.fn 6 (.pr (.fn 8 (.pr (.var 4) (.int 3))) (.int 1))))) (.int 2)))
theorem fact6 (ρ : Env) : E.B ρ f6 = true := by
  unfold f6
  rw [sm_B_imp]
  simp only [sm_B_and]
  rintro ⟨p0, p1, p2, p3, p4, p5, p6, p7, p8, p9, p10, p11, p12⟩
  have g0 := rows_get p2 (.var 4)
  clear p2
  simp only [sm_I_int, sm_I_fn6, sm_I_fn7, sm_I_fn8, sm_B_bool, sm_B_eql, sm_B_lss, sm_B_not, sm_B_and, sm_B_imp, sm_B_iff, sm_I_add_i64, sm_I_sub_i64, sm_I_mul_i64, sm_I_rem, sm_I_wr, sm_I_mx, sm_I_mn] at *
  try generalize E.I ρ (.var 3) = a0 at *
  try generalize E.I ρ (.var 2) = a1 at *
  try generalize E.I ρ (.var 4) = a2 at *
  try generalize E.I ρ (.var 1) = a3 at *
  try generalize E.I ρ (.fn 1 (.pr (.var 0) (.fn 6 (.pr (.fn 8 (.pr (.var 4) (.int 3))) (.int 0))))) = a4 at *
  try generalize E.I ρ (.fn 1 (.pr (.var 0) (.fn 6 (.pr (.fn 8 (.pr (.var 4) (.int 3))) (.int 1))))) = a5 at *
  omega
noncomputable def f7 : E := (.imp (.and (.cmp .eql (.var 3) (.fn 8 (.pr (.var 2) (.int 2)))) (.and (.not (.cmp .lss (.var 2) (.int 1))) (.and (.fn 100 (.pr (.var 0) (.pr (.var 1) (.pr (.var 1) (.int 1))))) (.and (.cmp .lss (.var 4) (.var 1)) (.and (.not (.cmp .lss (.fn 1 (.pr (.var 0) (.fn 6 (.pr (.fn 8 (.pr (.var 4) (.int 3))) (.int 0))))) (.int 0))) (.and (.not (.cmp .lss (.int 50002) (.var 1))) (.and (.not (.cmp .lss (.var 1) (.int 1))) (.and (.not (.cmp .lss (.var 1) (.var 4))) (.and (.not (.cmp .lss (.var 4) (.int 0))) (.and (.not (.cmp .lss (.int 50002) (.var 1))) (.not (.cmp .lss (.var 1) (.int 1))))))))))))) (.cmp .lss (.fn 1 (.pr (.var 0) (.fn 6 (.pr (.fn 8 (.pr (.var 4) (.int 3))) (.int 0))))) (.int 2)))
theorem fact7 (ρ : Env) : E.B ρ f7 = true := by
  unfold f7
  rw [sm_B_imp]
  simp only [sm_B_and]
  rintro ⟨p0, p1, p2, p3, p4, p5, p6, p7, p8, p9, p10⟩
  have g0 := rows_get p2 (.var 4)
  clear p2
  simp only [sm_I_int, sm_I_fn6, sm_I_fn7, sm_I_fn8, sm_B_bool, sm_B_eql, sm_B_lss, sm_B_not, sm_B_and, sm_B_imp, sm_B_iff, sm_I_add_i64, sm_I_sub_i64, sm_I_mul_i64, sm_I_rem, sm_I_wr, sm_I_mx, sm_I_mn] at *
  try generalize E.I ρ (.var 3) = a0 at *
  try generalize E.I ρ (.var 2) = a1 at *
  try generalize E.I ρ (.var 4) = a2 at *
  try generalize E.I ρ (.var 1) = a3 at *
  try generalize E.I ρ (.fn 1 (.pr (.var 0) (.fn 6 (.pr (.fn 8 (.pr (.var 4) (.int 3))) (.int 0))))) = a4 at *
  omega
noncomputable def f8 : E := (.imp (.and (.cmp .lss (.ar .sub .i64 (.int 100000) (.var 2)) (.var 1)) (.and (.cmp .eql (.var 3) (.fn 8 (.pr (.var 2) (.int 2)))) (.and (.not (.cmp .lss (.int 100001) (.var 2))) (.and (.not (.cmp .lss (.var 2) (.int 1))) (.and (.not (.cmp .lss (.int 50002) (.var 1))) (.and (.not (.cmp .lss (.var 1) (.int 1))) (.and (.not (.cmp .lss (.var 1) (.var 4))) (.and (.not (.cmp .lss (.var 4) (.int 0))) (.and (.cmp .eql (.var 3) (.fn 8 (.pr (.var 2) (.int 2)))) (.and (.not (.cmp .lss (.int 100001) (.var 2))) (.and (.not (.cmp .lss (.var 2) (.int 1))) (.and (.not (.cmp .lss (.int 50002) (.var 1))) (.not (.cmp .lss (.var 1) (.int 1))))))))))))))) (.cmp .lss (.int 100000) (.fn 6 (.pr (.var 2) (.var 1)))))
theorem fact8 (ρ : Env) : E.B ρ f8 = true := by
  unfold f8
  rw [sm_B_imp]
  simp only [sm_B_and]
  rintro ⟨p0, p1, p2, p3, p4, p5, p6, p7, p8, p9, p10, p11, p12⟩
  simp only [sm_I_int, sm_I_fn6, sm_I_fn7, sm_I_fn8, sm_B_bool, sm_B_eql, sm_B_lss, sm_B_not, sm_B_and, sm_B_imp, sm_B_iff, sm_I_add_i64, sm_I_sub_i64, sm_I_mul_i64, sm_I_rem, sm_I_wr, sm_I_mx, sm_I_mn] at *
  try generalize E.I ρ (.var 2) = a0 at *
  try generalize E.I ρ (.var 1) = a1 at *
  try generalize E.I ρ (.var 3) = a2 at *
  try generalize E.I ρ (.var 4) = a3 at *
  obtain ⟨a4, ea4, qa4⟩ := cs_i64 ((100000) - a0)
  try simp only [ea4] at *
  omega
noncomputable def f9 : E := (.imp (.and (.cmp .eql (.var 3) (.fn 8 (.pr (.var 2) (.int 2)))) (.and (.not (.cmp .lss (.var 2) (.int 1))) (.and (.fn 100 (.pr (.var 0) (.pr (.var 1) (.pr (.var 1) (.int 1))))) (.and (.cmp .lss (.var 4) (.var 1)) (.and (.cmp .lss (.fn 1 (.pr (.var 0) (.fn 6 (.pr (.fn 8 (.pr (.var 4) (.int 3))) (.int 0))))) (.int 2)) (.and (.not (.cmp .lss (.int 50002) (.var 1))) (.and (.not (.cmp .lss (.var 1) (.int 1))) (.and (.not (.cmp .lss (.var 1) (.var 4))) (.and (.not (.cmp .lss (.var 4) (.int 0))) (.and (.not (.cmp .lss (.int 50002) (.var 1))) (.not (.cmp .lss (.var 1) (.int 1))))))))))))) (.not (.cmp .lss (.fn 1 (.pr (.var 0) (.fn 6 (.pr (.fn 8 (.pr (.var 4) (.int 3))) (.int 1))))) (.int 0))))
theorem fact9 (ρ : Env) : E.B ρ f9 = true := by
  unfold f9
  rw [sm_B_imp]
  simp only [sm_B_and]
  rintro ⟨p0, p1, p2, p3, p4, p5, p6, p7, p8, p9, p10⟩
  have g0 := rows_get p2 (.var 4)
  clear p2
  simp only [sm_I_int, sm_I_fn6, sm_I_fn7, sm_I_fn8, sm_B_bool, sm_B_eql, sm_B_lss, sm_B_not, sm_B_and, sm_B_imp, sm_B_iff, sm_I_add_i64, sm_I_sub_i64, sm_I_mul_i64, sm_I_rem, sm_I_wr, sm_I_mx, sm_I_mn] at *
  try generalize E.I ρ (.var 3) = a0 at *
  try generalize E.I ρ (.var 2) = a1 at *
  try generalize E.I ρ (.var 4) = a2 at *
  try generalize E.I ρ (.var 1) = a3 at *
  try generalize E.I ρ (.fn 1 (.pr (.var 0) (.fn 6 (.pr (.fn 8 (.pr (.var 4) (.int 3))) (.int 0))))) = a4 at *
  try generalize E.I ρ (.fn 1 (.pr (.var 0) (.fn 6 (.pr (.fn 8 (.pr (.var 4) (.int 3))) (.int 1))))) = a5 at *
  omega
noncomputable def f10 : E := (.imp (.and (.cmp .eql (.var 3) (.fn 8 (.pr (.var 2) (.int 2)))) (.and (.not (.cmp .lss (.var 2) (.int 1))) (.and (.fn 100 (.pr (.var 0) (.pr (.var 1) (.pr (.var 1) (.int 1))))) (.and (.cmp .lss (.var 4) (.var 1)) (.and (.cmp .lss (.fn 1 (.pr (.var 0) (.fn 6 (.pr (.fn 8 (.pr (.var 4) (.int 3))) (.int 0))))) (.int 2)) (.and (.not (.cmp .lss (.fn 1 (.pr (.var 0) (.fn 6 (.pr (.fn 8 (.pr (.var 4) (.int 3))) (.int 1))))) (.int 0))) (.and (.cmp .lss (.fn 1 (.pr (.var 0) (.fn 6 (.pr (.fn 8 (.pr (.var 4) (.int 3))) (.int 1))))) (.int 2)) (.and (.not (.cmp .eql (.fn 1 (.pr (.var 0) (.fn 6 (.pr (.fn 8 (.pr (.var 4) (.int 3))) (.int 0))))) (.fn 1 (.pr (.var 0) (.fn 6 (.pr (.fn 8 (.pr (.var 4) (.int 3))) (.int 1))))))) (.and (.not (.cmp .lss (.fn 1 (.pr (.var 0) (.fn 6 (.pr (.fn 8 (.pr (.var 4) (.int 3))) (.int 2))))) (.int 1))) (.and (.not (.cmp .lss (.int 50002) (.var 1))) (.and (.not (.cmp .lss (.var 1) (.int 1))) (.and (.not (.cmp .lss (.var 1) (.var 4))) (.and (.not (.cmp .lss (.var 4) (.int 0))) (.and (.not (.cmp .lss (.int 50002) (.var 1))) (.not (.cmp .lss (.var 1) (.int 1))))))))))))))))) (.not (.cmp .lss (.int 3) (.fn 1 (.pr (.var 0) (.fn 6 (.pr (.fn 8 (.pr (.var 4) (.int 3))) (.int 2))))))))
theorem fact10 (ρ : Env) : E.B ρ f10 = true := by
  unfold f10
  rw [sm_B_imp]
  simp only [sm_B_and]
  rintro ⟨p0, p1, p2, p3, p4, p5, p6, p7, p8, p9, p10, p11, p12, p13, p14⟩
  have g0 := rows_get p2 (.var 4)
  clear p2
  simp only [sm_I_int, sm_I_fn6, sm_I_fn7, sm_I_fn8, sm_B_bool, sm_B_eql, sm_B_lss, sm_B_not, sm_B_and, sm_B_imp, sm_B_iff, sm_I_add_i64, sm_I_sub_i64, sm_I_mul_i64, sm_I_rem, sm_I_wr, sm_I_mx, sm_I_mn] at *
  try generalize E.I ρ (.var 3) = a0 at *
  try generalize E.I ρ (.var 2) = a1 at *
  try generalize E.I ρ (.var 4) = a2 at *
  try generalize E.I ρ (.var 1) = a3 at *
  try generalize E.I ρ (.fn 1 (.pr (.var 0) (.fn 6 (.pr (.fn 8 (.pr (.var 4) (.int 3))) (.int 0))))) = a4 at *
  try generalize E.I ρ (.fn 1 (.pr (.var 0) (.fn 6 (.pr (.fn 8 (.pr (.var 4) (.int 3))) (.int 1))))) = a5 at *
  try generalize E.I ρ (.fn 1 (.pr (.var 0) (.fn 6 (.pr (.fn 8 (.pr (.var 4) (.int 3))) (.int 2))))) = a6 at *
  omega
noncomputable def f11 : E := (.imp (.and (.cmp .lss (.var 4) (.var 1)) (.and (.not (.cmp .lss (.int 50002) (.var 1))) (.and (.not (.cmp .lss (.var 1) (.int 1))) (.and (.not (.cmp .lss (.var 1) (.var 4))) (.and (.not (.cmp .lss (.var 4) (.int 0))) (.and (.not (.cmp .lss (.int 50002) (.var 1))) (.not (.cmp .lss (.var 1) (.int 1))))))))) (.not (.cmp .lss (.var 1) (.ar .add .i64 (.var 4) (.int 1)))))
theorem fact11 (ρ : Env) : E.B ρ f11 = true := by
  unfold f11
  rw [sm_B_imp]
  simp only [sm_B_and]
  rintro ⟨p0, p1, p2, p3, p4, p5, p6⟩
  simp only [sm_I_int, sm_I_fn6, sm_I_fn7, sm_I_fn8, sm_B_bool, sm_B_eql, sm_B_lss, sm_B_not, sm_B_and, sm_B_imp, sm_B_iff, sm_I_add_i64, sm_I_sub_i64, sm_I_mul_i64, sm_I_rem, sm_I_wr, sm_I_mx, sm_I_mn] at *
  try generalize E.I ρ (.var 4) = a0 at *
  try generalize E.I ρ (.var 1) = a1 at *
  obtain ⟨a2, ea2, qa2⟩ := cs_i64 (a0 + (1))
  try simp only [ea2] at *
  omega
noncomputable def f12 : E := (.imp (.and (.cmp .eql (.var 3) (.fn 8 (.pr (.var 2) (.int 2)))) (.and (.not (.cmp .lss (.var 2) (.int 1))) (.and (.fn 100 (.pr (.var 0) (.pr (.var 1) (.pr (.var 1) (.int 1))))) (.and (.cmp .lss (.var 4) (.var 1)) (.and (.cmp .lss (.fn 1 (.pr (.var 0) (.fn 6 (.pr (.fn 8 (.pr (.var 4) (.int 3))) (.int 0))))) (.int 2)) (.and (.not (.cmp .lss (.fn 1 (.pr (.var 0) (.fn 6 (.pr (.fn 8 (.pr (.var 4) (.int 3))) (.int 1))))) (.int 0))) (.and (.cmp .lss (.fn 1 (.pr (.var 0) (.fn 6 (.pr (.fn 8 (.pr (.var 4) (.int 3))) (.int 1))))) (.int 2)) (.and (.not (.cmp .eql (.fn 1 (.pr (.var 0) (.fn 6 (.pr (.fn 8 (.pr (.var 4) (.int 3))) (.int 0))))) (.fn 1 (.pr (.var 0) (.fn 6 (.pr (.fn 8 (.pr (.var 4) (.int 3))) (.int 1))))))) (.and (.not (.cmp .lss (.int 50002) (.var 1))) (.and (.not (.cmp .lss (.var 1) (.int 1))) (.and (.not (.cmp .lss (.var 1) (.var 4))) (.and (.not (.cmp .lss (.var 4) (.int 0))) (.and (.not (.cmp .lss (.int 50002) (.var 1))) (.not (.cmp .lss (.var 1) (.int 1)))))))))))))))) (.not (.cmp .lss (.fn 1 (.pr (.var 0) (.fn 6 (.pr (.fn 8 (.pr (.var 4) (.int 3))) (.int 2))))) (.int 1))))
theorem fact12 (ρ : Env) : E.B ρ f12 = true := by
  unfold f12
  rw [sm_B_imp]
  simp only [sm_B_and]
  rintro ⟨p0, p1, p2, p3, p4, p5, p6, p7, p8, p9, p10, p11, p12, p13⟩
  have g0 := rows_get p2 (.var 4)
  clear p2
  simp only [sm_I_int, sm_I_fn6, sm_I_fn7, sm_I_fn8, sm_B_bool, sm_B_eql, sm_B_lss, sm_B_not, sm_B_and, sm_B_imp, sm_B_iff, sm_I_add_i64, sm_I_sub_i64, sm_I_mul_i64, sm_I_rem, sm_I_wr, sm_I_mx, sm_I_mn] at *
  try generalize E.I ρ (.var 3) = a0 at *
  try generalize E.I ρ (.var 2) = a1 at *
  try generalize E.I ρ (.var 4) = a2 at *
  try generalize E.I ρ (.var 1) = a3 at *
  try generalize E.I ρ (.fn 1 (.pr (.var 0) (.fn 6 (.pr (.fn 8 (.pr (.var 4) (.int 3))) (.int 0))))) = a4 at *
  try generalize E.I ρ (.fn 1 (.pr (.var 0) (.fn 6 (.pr (.fn 8 (.pr (.var 4) (.int 3))) (.int 1))))) = a5 at *
  try generalize E.I ρ (.fn 1 (.pr (.var 0) (.fn 6 (.pr (.fn 8 (.pr (.var 4) (.int 3))) (.int 2))))) = a6 at *
  omega
noncomputable def f13 : E := (.imp (.and (.cmp .eql (.var 3) (.fn 8 (.pr (.var 2) (.int 2)))) (.and (.not (.cmp .lss (.var 2) (.int 1))) (.and (.fn 100 (.pr (.var 0) (.pr (.var 1) (.pr (.var 1) (.int 1))))) (.and (.cmp .lss (.var 4) (.var 1)) (.and (.cmp .lss (.fn 1 (.pr (.var 0) (.fn 6 (.pr (.fn 8 (.pr (.var 4) (.int 3))) (.int 0))))) (.int 2)) (.and (.not (.cmp .lss (.fn 1 (.pr (.var 0) (.fn 6 (.pr (.fn 8 (.pr (.var 4) (.int 3))) (.int 1))))) (.int 0))) (.and (.cmp .lss (.fn 1 (.pr (.var 0) (.fn 6 (.pr (.fn 8 (.pr (.var 4) (.int 3))) (.int 1))))) (.int 2)) (.and (.not (.cmp .lss (.int 50002) (.var 1))) (.and (.not (.cmp .lss (.var 1) (.int 1))) (.and (.not (.cmp .lss (.var 1) (.var 4))) (.and (.not (.cmp .lss (.var 4) (.int 0))) (.and (.not (.cmp .lss (.int 50002) (.var 1))) (.not (.cmp .lss (.var 1) (.int 1))))))))))))))) (.not (.cmp .eql (.fn 1 (.pr (.var 0) (.fn 6 (.pr (.fn 8 (.pr (.var 4) (.int 3))) (.int 0))))) (.fn 1 (.pr (.var 0) (.fn 6 (.pr (.fn 8 (.pr (.var 4) (.int 3))) (.int 1))))))))
theorem fact13 (ρ : Env) : E.B ρ f13 = true := by
  unfold f13
  rw [sm_B_imp]
  simp only [sm_B_and]
  rintro ⟨p0, p1, p2, p3, p4, p5, p6, p7, p8, p9, p10, p11, p12⟩
  have g0 := rows_get p2 (.var 4)
  clear p2
  simp only [sm_I_int, sm_I_fn6, sm_I_fn7, sm_I_fn8, sm_B_bool, sm_B_eql, sm_B_lss, sm_B_not, sm_B_and, sm_B_imp, sm_B_iff, sm_I_add_i64, sm_I_sub_i64, sm_I_mul_i64, sm_I_rem, sm_I_wr, sm_I_mx, sm_I_mn] at *
  try generalize E.I ρ (.var 3) = a0 at *
  try generalize E.I ρ (.var 2) = a1 at *
  try generalize E.I ρ (.var 4) = a2 at *
  try generalize E.I ρ (.var 1) = a3 at *
  try generalize E.I ρ (.fn 1 (.pr (.var 0) (.fn 6 (.pr (.fn 8 (.pr (.var 4) (.int 3))) (.int 0))))) = a4 at *
  try generalize E.I ρ (.fn 1 (.pr (.var 0) (.fn 6 (.pr (.fn 8 (.pr (.var 4) (.int 3))) (.int 1))))) = a5 at *
  omega
noncomputable def f14 : E := (.imp (.and (.cmp .eql (.var 3) (.fn 8 (.pr (.var 2) (.int 2)))) (.and (.not (.cmp .lss (.var 2) (.int 1))) (.and (.fn 100 (.pr (.var 0) (.pr (.var 1) (.pr (.var 1) (.int 1))))) (.and (.cmp .lss (.var 4) (.var 1)) (.and (.cmp .lss (.fn 1 (.pr (.var 0) (.fn 6 (.pr (.fn 8 (.pr (.var 4) (.int 3))) (.int 0))))) (.int 2)) (.and (.not (.cmp .lss (.fn 1 (.pr (.var 0) (.fn 6 (.pr (.fn 8 (.pr (.var 4) (.int 3))) (.int 1))))) (.int 0))) (.and (.not (.cmp .lss (.int 50002) (.var 1))) (.and (.not (.cmp .lss (.var 1) (.int 1))) (.and (.not (.cmp .lss (.var 1) (.var 4))) (.and (.not (.cmp .lss (.var 4) (.int 0))) (.and (.not (.cmp .lss (.int 50002) (.var 1))) (.not (.cmp .lss (.var 1) (.int 1)))))))))))))) (.cmp .lss (.fn 1 (.pr (.var 0) (.fn 6 (.pr (.fn 8 (.pr (.var 4) (.int 3))) (.int 1))))) (.int 2)))
theorem fact14 (ρ : Env) : E.B ρ f14 = true := by
  unfold f14
  rw [sm_B_imp]
  simp only [sm_B_and]
  rintro ⟨p0, p1, p2, p3, p4, p5, p6, p7, p8, p9, p10, p11⟩
  have g0 := rows_get p2 (.var 4)
  clear p2
  simp only [sm_I_int, sm_I_fn6, sm_I_fn7, sm_I_fn8, sm_B_bool, sm_B_eql, sm_B_lss, sm_B_not, sm_B_and, sm_B_imp, sm_B_iff, sm_I_add_i64, sm_I_sub_i64, sm_I_mul_i64, sm_I_rem, sm_I_wr, sm_I_mx, sm_I_mn] at *
  try generalize E.I ρ (.var 3) = a0 at *
  try generalize E.I ρ (.var 2) = a1 at *
  try generalize E.I ρ (.var 4) = a2 at *
  try generalize E.I ρ (.var 1) = a3 at *
  try generalize E.I ρ (.fn 1 (.pr (.var 0) (.fn 6 (.pr (.fn 8 (.pr (.var 4) (.int 3))) (.int 0))))) = a4 at *
  try generalize E.I ρ (.fn 1 (.pr (.var 0) (.fn 6 (.pr (.fn 8 (.pr (.var 4) (.int 3))) (.int 1))))) = a5 at *
  omega
noncomputable def f15 : E := (.imp (.and (.cmp .eql (.var 3) (.fn 8 (.pr (.var 2) (.int 2)))) (.and (.not (.cmp .lss (.var 2) (.int 1))) (.and (.fn 100 (.pr (.var 0) (.pr (.var 1) (.pr (.var 1) (.int 1))))) (.and (.cmp .lss (.var 4) (.var 1)) (.and (.not (.cmp .lss (.int 50002) (.var 1))) (.and (.not (.cmp .lss (.var 1) (.int 1))) (.and (.not (.cmp .lss (.var 1) (.var 4))) (.and (.not (.cmp .lss (.var 4) (.int 0))) (.and (.not (.cmp .lss (.int 50002) (.var 1))) (.not (.cmp .lss (.var 1) (.int 1)))))))))))) (.cmp .lss (.fn 1 (.pr (.var 0) (.fn 6 (.pr (.fn 8 (.pr (.var 4) (.int 3))) (.int 0))))) (.int 2)))
theorem fact15 (ρ : Env) : E.B ρ f15 = true := by
  unfold f15
  rw [sm_B_imp]
  simp only [sm_B_and]
  rintro ⟨p0, p1, p2, p3, p4, p5, p6, p7, p8, p9⟩
  have g0 := rows_get p2 (.var 4)
  clear p2
  simp only [sm_I_int, sm_I_fn6, sm_I_fn7, sm_I_fn8, sm_B_bool, sm_B_eql, sm_B_lss, sm_B_not, sm_B_and, sm_B_imp, sm_B_iff, sm_I_add_i64, sm_I_sub_i64, sm_I_mul_i64, sm_I_rem, sm_I_wr, sm_I_mx, sm_I_mn] at *
  try generalize E.I ρ (.var 3) = a0 at *
  try generalize E.I ρ (.var 2) = a1 at *
  try generalize E.I ρ (.var 4) = a2 at *
  try generalize E.I ρ (.var 1) = a3 at *
  try generalize E.I ρ (.fn 1 (.pr (.var 0) (.fn 6 (.pr (.fn 8 (.pr (.var 4) (.int 3))) (.int 0))))) = a4 at *
  omega
noncomputable def f16 : E := (.imp (.and (.fn 100 (.pr (.var 0) (.pr (.var 1) (.pr (.var 1) (.int 1))))) (.and (.not (.cmp .lss (.var 4) (.var 1))) (.and (.not (.cmp .lss (.ar .sub .i64 (.int 100000) (.var 2)) (.var 1))) (.and (.cmp .eql (.var 3) (.fn 8 (.pr (.var 2) (.int 2)))) (.and (.not (.cmp .lss (.int 100001) (.var 2))) (.and (.not (.cmp .lss (.var 2) (.int 1))) (.and (.not (.cmp .lss (.int 50002) (.var 1))) (.and (.not (.cmp .lss (.var 1) (.int 1))) (.and (.not (.cmp .lss (.var 1) (.var 4))) (.and (.not (.cmp .lss (.var 4) (.int 0))) (.and (.cmp .eql (.var 3) (.fn 8 (.pr (.var 2) (.int 2)))) (.and (.not (.cmp .lss (.int 100001) (.var 2))) (.and (.not (.cmp .lss (.var 2) (.int 1))) (.and (.not (.cmp .lss (.int 50002) (.var 1))) (.not (.cmp .lss (.var 1) (.int 1))))))))))))))))) (.not (.cmp .lss (.int 100000) (.fn 6 (.pr (.var 2) (.var 1))))))
theorem fact16 (ρ : Env) : E.B ρ f16 = true := by
  unfold f16
  rw [sm_B_imp]
  simp only [sm_B_and]
  rintro ⟨p0, p1, p2, p3, p4, p5, p6, p7, p8, p9, p10, p11, p12, p13, p14⟩
  clear p0
  simp only [sm_I_int, sm_I_fn6, sm_I_fn7, sm_I_fn8, sm_B_bool, sm_B_eql, sm_B_lss, sm_B_not, sm_B_and, sm_B_imp, sm_B_iff, sm_I_add_i64, sm_I_sub_i64, sm_I_mul_i64, sm_I_rem, sm_I_wr, sm_I_mx, sm_I_mn] at *
  try generalize E.I ρ (.var 4) = a0 at *
  try generalize E.I ρ (.var 1) = a1 at *
  try generalize E.I ρ (.var 2) = a2 at *
  try generalize E.I ρ (.var 3) = a3 at *
  obtain ⟨a4, ea4, qa4⟩ := cs_i64 ((100000) - a2)
  try simp only [ea4] at *
  omega
noncomputable def f17 : E := (.imp (.and (.cmp .eql (.var 3) (.fn 8 (.pr (.var 2) (.int 2)))) (.and (.not (.cmp .lss (.var 2) (.int 1))) (.and (.fn 100 (.pr (.var 0) (.pr (.var 1) (.pr (.var 1) (.int 1))))) (.and (.cmp .lss (.var 4) (.var 1)) (.and (.not (.cmp .lss (.int 50002) (.var 1))) (.and (.not (.cmp .lss (.var 1) (.int 1))) (.and (.not (.cmp .lss (.var 1) (.var 4))) (.and (.not (.cmp .lss (.var 4) (.int 0))) (.and (.not (.cmp .lss (.int 50002) (.var 1))) (.not (.cmp .lss (.var 1) (.int 1)))))))))))) (.not (.cmp .lss (.fn 1 (.pr (.var 0) (.fn 6 (.pr (.fn 8 (.pr (.var 4) (.int 3))) (.int 1))))) (.int 0))))
theorem fact17 (ρ : Env) : E.B ρ f17 = true := by
  unfold f17
  rw [sm_B_imp]
  simp only [sm_B_and]
  rintro ⟨p0, p1, p2, p3, p4, p5, p6, p7, p8, p9⟩
  have g0 := rows_get p2 (.var 4)
  clear p2
  simp only [sm_I_int, sm_I_fn6, sm_I_fn7, sm_I_fn8, sm_B_bool, sm_B_eql, sm_B_lss, sm_B_not, sm_B_and, sm_B_imp, sm_B_iff, sm_I_add_i64, sm_I_sub_i64, sm_I_mul_i64, sm_I_rem, sm_I_wr, sm_I_mx, sm_I_mn] at *
  try generalize E.I ρ (.var 3) = a0 at *
  try generalize E.I ρ (.var 2) = a1 at *
  try generalize E.I ρ (.var 4) = a2 at *
  try generalize E.I ρ (.var 1) = a3 at *
  try generalize E.I ρ (.fn 1 (.pr (.var 0) (.fn 6 (.pr (.fn 8 (.pr (.var 4) (.int 3))) (.int 1))))) = a4 at *
  omega
noncomputable def f18 : E := (.imp (.and (.cmp .eql (.var 3) (.fn 8 (.pr (.var 2) (.int 2)))) (.and (.not (.cmp .lss (.var 2) (.int 1))) (.and (.fn 100 (.pr (.var 0) (.pr (.var 1) (.pr (.var 1) (.int 1))))) (.and (.cmp .lss (.var 4) (.var 1)) (.and (.not (.cmp .lss (.fn 1 (.pr (.var 0) (.fn 6 (.pr (.fn 8 (.pr (.var 4) (.int 3))) (.int 1))))) (.int 0))) (.and (.cmp .lss (.fn 1 (.pr (.var 0) (.fn 6 (.pr (.fn 8 (.pr (.var 4) (.int 3))) (.int 1))))) (.int 2)) (.and (.not (.cmp .eql (.fn 1 (.pr (.var 0) (.fn 6 (.pr (.fn 8 (.pr (.var 4) (.int 3))) (.int 0))))) (.fn 1 (.pr (.var 0) (.fn 6 (.pr (.fn 8 (.pr (.var 4) (.int 3))) (.int 1))))))) (.and (.not (.cmp .lss (.fn 1 (.pr (.var 0) (.fn 6 (.pr (.fn 8 (.pr (.var 4) (.int 3))) (.int 2))))) (.int 1))) (.and (.not (.cmp .lss (.int 50002) (.var 1))) (.and (.not (.cmp .lss (.var 1) (.int 1))) (.and (.not (.cmp .lss (.var 1) (.var 4))) (.and (.not (.cmp .lss (.var 4) (.int 0))) (.and (.not (.cmp .lss (.int 50002) (.var 1))) (.not (.cmp .lss (.var 1) (.int 1)))))))))))))))) (.not (.cmp .lss (.int 3) (.fn 1 (.pr (.var 0) (.fn 6 (.pr (.fn 8 (.pr (.var 4) (.int 3))) (.int 2))))))))
theorem fact18 (ρ : Env) : E.B ρ f18 = true := by
  unfold f18
  rw [sm_B_imp]
  simp only [sm_B_and]
  rintro ⟨p0, p1, p2, p3, p4, p5, p6, p7, p8, p9, p10, p11, p12, p13⟩
  have g0 := rows_get p2 (.var 4)
  clear p2
  simp only [sm_I_int, sm_I_fn6, sm_I_fn7, sm_I_fn8, sm_B_bool, sm_B_eql, sm_B_lss, sm_B_not, sm_B_and, sm_B_imp, sm_B_iff, sm_I_add_i64, sm_I_sub_i64, sm_I_mul_i64, sm_I_rem, sm_I_wr, sm_I_mx, sm_I_mn] at *
  try generalize E.I ρ (.var 3) = a0 at *
  try generalize E.I ρ (.var 2) = a1 at *
  try generalize E.I ρ (.var 4) = a2 at *
  try generalize E.I ρ (.var 1) = a3 at *
  try generalize E.I ρ (.fn 1 (.pr (.var 0) (.fn 6 (.pr (.fn 8 (.pr (.var 4) (.int 3))) (.int 1))))) = a4 at *
  try generalize E.I ρ (.fn 1 (.pr (.var 0) (.fn 6 (.pr (.fn 8 (.pr (.var 4) (.int 3))) (.int 0))))) = a5 at *
  try generalize E.I ρ (.fn 1 (.pr (.var 0) (.fn 6 (.pr (.fn 8 (.pr (.var 4) (.int 3))) (.int 2))))) = a6 at *
  omega
noncomputable def f19 : E := (.imp (.and (.not (.cmp .lss (.int 50002) (.var 1))) (.and (.not (.cmp .lss (.var 1) (.int 1))) (.and (.not (.cmp .lss (.var 1) (.var 4))) (.and (.not (.cmp .lss (.var 4) (.int 0))) (.and (.not (.cmp .lss (.int 50002) (.var 1))) (.not (.cmp .lss (.var 1) (.int 1)))))))) (.cmp .lss (.fn 7 (.pr (.var 1) (.ar .add .i64 (.var 4) (.int 1)))) (.fn 7 (.pr (.var 1) (.var 4)))))
theorem fact19 (ρ : Env) : E.B ρ f19 = true := by
  unfold f19
  rw [sm_B_imp]
  simp only [sm_B_and]
  rintro ⟨p0, p1, p2, p3, p4, p5⟩
  simp only [sm_I_int, sm_I_fn6, sm_I_fn7, sm_I_fn8, sm_B_bool, sm_B_eql, sm_B_lss, sm_B_not, sm_B_and, sm_B_imp, sm_B_iff, sm_I_add_i64, sm_I_sub_i64, sm_I_mul_i64, sm_I_rem, sm_I_wr, sm_I_mx, sm_I_mn] at *
  try generalize E.I ρ (.var 1) = a0 at *
  try generalize E.I ρ (.var 4) = a1 at *
  obtain ⟨a2, ea2, qa2⟩ := cs_i64 (a1 + (1))
  try simp only [ea2] at *
  omega
noncomputable def f20 : E := (.imp (.and (.cmp .eql (.var 3) (.fn 8 (.pr (.var 2) (.int 2)))) (.and (.not (.cmp .lss (.var 2) (.int 1))) (.and (.fn 100 (.pr (.var 0) (.pr (.var 1) (.pr (.var 1) (.int 1))))) (.and (.cmp .lss (.var 4) (.var 1)) (.and (.not (.cmp .lss (.fn 1 (.pr (.var 0) (.fn 6 (.pr (.fn 8 (.pr (.var 4) (.int 3))) (.int 1))))) (.int 0))) (.and (.cmp .lss (.fn 1 (.pr (.var 0) (.fn 6 (.pr (.fn 8 (.pr (.var 4) (.int 3))) (.int 1))))) (.int 2)) (.and (.not (.cmp .eql (.fn 1 (.pr (.var 0) (.fn 6 (.pr (.fn 8 (.pr (.var 4) (.int 3))) (.int 0))))) (.fn 1 (.pr (.var 0) (.fn 6 (.pr (.fn 8 (.pr (.var 4) (.int 3))) (.int 1))))))) (.and (.not (.cmp .lss (.int 50002) (.var 1))) (.and (.not (.cmp .lss (.var 1) (.int 1))) (.and (.not (.cmp .lss (.var 1) (.var 4))) (.and (.not (.cmp .lss (.var 4) (.int 0))) (.and (.not (.cmp .lss (.int 50002) (.var 1))) (.not (.cmp .lss (.var 1) (.int 1))))))))))))))) (.not (.cmp .lss (.fn 1 (.pr (.var 0) (.fn 6 (.pr (.fn 8 (.pr (.var 4) (.int 3))) (.int 2))))) (.int 1))))
theorem fact20 (ρ : Env) : E.B ρ f20 = true := by
  unfold f20
  rw [sm_B_imp]
  simp only [sm_B_and]
  rintro ⟨p0, p1, p2, p3, p4, p5, p6, p7, p8, p9, p10, p11, p12⟩
  have g0 := rows_get p2 (.var 4)
  clear p2
  simp only [sm_I_int, sm_I_fn6, sm_I_fn7, sm_I_fn8, sm_B_bool, sm_B_eql, sm_B_lss, sm_B_not, sm_B_and, sm_B_imp, sm_B_iff, sm_I_add_i64, sm_I_sub_i64, sm_I_mul_i64, sm_I_rem, sm_I_wr, sm_I_mx, sm_I_mn] at *
  try generalize E.I ρ (.var 3) = a0 at *
  try generalize E.I ρ (.var 2) = a1 at *
  try generalize E.I ρ (.var 4) = a2 at *
  try generalize E.I ρ (.var 1) = a3 at *
  try generalize E.I ρ (.fn 1 (.pr (.var 0) (.fn 6 (.pr (.fn 8 (.pr (.var 4) (.int 3))) (.int 1))))) = a4 at *
  try generalize E.I ρ (.fn 1 (.pr (.var 0) (.fn 6 (.pr (.fn 8 (.pr (.var 4) (.int 3))) (.int 0))))) = a5 at *
  try generalize E.I ρ (.fn 1 (.pr (.var 0) (.fn 6 (.pr (.fn 8 (.pr (.var 4) (.int 3))) (.int 2))))) = a6 at *
  omega
noncomputable def f21 : E := (.imp (.and (.cmp .eql (.var 3) (.fn 8 (.pr (.var 2) (.int 2)))) (.and (.not (.cmp .lss (.var 2) (.int 1))) (.and (.fn 100 (.pr (.var 0) (.pr (.var 1) (.pr (.var 1) (.int 1))))) (.and (.cmp .lss (.var 4) (.var 1)) (.and (.not (.cmp .lss (.fn 1 (.pr (.var 0) (.fn 6 (.pr (.fn 8 (.pr (.var 4) (.int 3))) (.int 1))))) (.int 0))) (.and (.cmp .lss (.fn 1 (.pr (.var 0) (.fn 6 (.pr (.fn 8 (.pr (.var 4) (.int 3))) (.int 1))))) (.int 2)) (.and (.not (.cmp .lss (.int 50002) (.var 1))) (.and (.not (.cmp .lss (.var 1) (.int 1))) (.and (.not (.cmp .lss (.var 1) (.var 4))) (.and (.not (.cmp .lss (.var 4) (.int 0))) (.and (.not (.cmp .lss (.int 50002) (.var 1))) (.not (.cmp .lss (.var 1) (.int 1)))))))))))))) (.not (.cmp .eql (.fn 1 (.pr (.var 0) (.fn 6 (.pr (.fn 8 (.pr (.var 4) (.int 3))) (.int 0))))) (.fn 1 (.pr (.var 0) (.fn 6 (.pr (.fn 8 (.pr (.var 4) (.int 3))) (.int 1))))))))
theorem fact21 (ρ : Env) : E.B ρ f21 = true := by
  unfold f21
  rw [sm_B_imp]
  simp only [sm_B_and]
  rintro ⟨p0, p1, p2, p3, p4, p5, p6, p7, p8, p9, p10, p11⟩
  have g0 := rows_get p2 (.var 4)
  clear p2
  simp only [sm_I_int, sm_I_fn6, sm_I_fn7, sm_I_fn8, sm_B_bool, sm_B_eql, sm_B_lss, sm_B_not, sm_B_and, sm_B_imp, sm_B_iff, sm_I_add_i64, sm_I_sub_i64, sm_I_mul_i64, sm_I_rem, sm_I_wr, sm_I_mx, sm_I_mn] at *
  try generalize E.I ρ (.var 3) = a0 at *
  try generalize E.I ρ (.var 2) = a1 at *
  try generalize E.I ρ (.var 4) = a2 at *
  try generalize E.I ρ (.var 1) = a3 at *
  try generalize E.I ρ (.fn 1 (.pr (.var 0) (.fn 6 (.pr (.fn 8 (.pr (.var 4) (.int 3))) (.int 1))))) = a4 at *
  try generalize E.I ρ (.fn 1 (.pr (.var 0) (.fn 6 (.pr (.fn 8 (.pr (.var 4) (.int 3))) (.int 0))))) = a5 at *
  omega
noncomputable def f22 : E := (.imp (.and (.cmp .eql (.var 3) (.fn 8 (.pr (.var 2) (.int 2)))) (.and (.not (.cmp .lss (.var 2) (.int 1))) (.and (.fn 100 (.pr (.var 0) (.pr (.var 1) (.pr (.var 1) (.int 1))))) (.and (.cmp .lss (.var 4) (.var 1)) (.and (.not (.cmp .lss (.fn 1 (.pr (.var 0) (.fn 6 (.pr (.fn 8 (.pr (.var 4) (.int 3))) (.int 1))))) (.int 0))) (.and (.not (.cmp .lss (.int 50002) (.var 1))) (.and (.not (.cmp .lss (.var 1) (.int 1))) (.and (.not (.cmp .lss (.var 1) (.var 4))) (.and (.not (.cmp .lss (.var 4) (.int 0))) (.and (.not (.cmp .lss (.int 50002) (.var 1))) (.not (.cmp .lss (.var 1) (.int 1))))))))))))) (.cmp .lss (.fn 1 (.pr (.var 0) (.fn 6 (.pr (.fn 8 (.pr (.var 4) (.int 3))) (.int 1))))) (.int 2)))
theorem fact22 (ρ : Env) : E.B ρ f22 = true := by
  unfold f22
  rw [sm_B_imp]
  simp only [sm_B_and]
  rintro ⟨p0, p1, p2, p3, p4, p5, p6, p7, p8, p9, p10⟩
  have g0 := rows_get p2 (.var 4)
  clear p2
  simp only [sm_I_int, sm_I_fn6, sm_I_fn7, sm_I_fn8, sm_B_bool, sm_B_eql, sm_B_lss, sm_B_not, sm_B_and, sm_B_imp, sm_B_iff, sm_I_add_i64, sm_I_sub_i64, sm_I_mul_i64, sm_I_rem, sm_I_wr, sm_I_mx, sm_I_mn] at *
  try generalize E.I ρ (.var 3) = a0 at *
  try generalize E.I ρ (.var 2) = a1 at *
  try generalize E.I ρ (.var 4) = a2 at *
  try generalize E.I ρ (.var 1) = a3 at *
  try generalize E.I ρ (.fn 1 (.pr (.var 0) (.fn 6 (.pr (.fn 8 (.pr (.var 4) (.int 3))) (.int 1))))) = a4 at *
  omega
noncomputable def f23 : E := (.cmp .eql (.fn 8 (.pr (.int 0) (.int 2))) (.int 0))
theorem fact23 (ρ : Env) : E.B ρ f23 = true := by
  unfold f23
  simp only [sm_I_int, sm_I_fn6, sm_I_fn7, sm_I_fn8, sm_B_bool, sm_B_eql, sm_B_lss, sm_B_not, sm_B_and, sm_B_imp, sm_B_iff, sm_I_add_i64, sm_I_sub_i64, sm_I_mul_i64, sm_I_rem, sm_I_wr, sm_I_mx, sm_I_mn] at *
  omega
noncomputable def f24 : E := (.imp (.and (.cmp .eql (.var 3) (.fn 8 (.pr (.var 2) (.int 2)))) (.and (.not (.cmp .lss (.var 2) (.int 1))) (.and (.fn 100 (.pr (.var 0) (.pr (.var 1) (.pr (.var 1) (.int 1))))) (.and (.cmp .lss (.var 4) (.var 1)) (.and (.cmp .lss (.fn 1 (.pr (.var 0) (.fn 6 (.pr (.fn 8 (.pr (.var 4) (.int 3))) (.int 1))))) (.int 2)) (.and (.not (.cmp .eql (.fn 1 (.pr (.var 0) (.fn 6 (.pr (.fn 8 (.pr (.var 4) (.int 3))) (.int 0))))) (.fn 1 (.pr (.var 0) (.fn 6 (.pr (.fn 8 (.pr (.var 4) (.int 3))) (.int 1))))))) (.and (.not (.cmp .lss (.fn 1 (.pr (.var 0) (.fn 6 (.pr (.fn 8 (.pr (.var 4) (.int 3))) (.int 2))))) (.int 1))) (.and (.not (.cmp .lss (.int 50002) (.var 1))) (.and (.not (.cmp .lss (.var 1) (.int 1))) (.and (.not (.cmp .lss (.var 1) (.var 4))) (.and (.not (.cmp .lss (.var 4) (.int 0))) (.and (.not (.cmp .lss (.int 50002) (.var 1))) (.not (.cmp .lss (.var 1) (.int 1))))))))))))))) (.not (.cmp .lss (.int 3) (.fn 1 (.pr (.var 0) (.fn 6 (.pr (.fn 8 (.pr (.var 4) (.int 3))) (.int 2))))))))
theorem fact24 (ρ : Env) : E.B ρ f24 = true := by
  unfold f24
  rw [sm_B_imp]
  simp only [sm_B_and]
  rintro ⟨p0, p1, p2, p3, p4, p5, p6, p7, p8, p9, p10, p11, p12⟩
  have g0 := rows_get p2 (.var 4)
  clear p2
  simp only [sm_I_int, sm_I_fn6, sm_I_fn7, sm_I_fn8, sm_B_bool, sm_B_eql, sm_B_lss, sm_B_not, sm_B_and, sm_B_imp, sm_B_iff, sm_I_add_i64, sm_I_sub_i64, sm_I_mul_i64, sm_I_rem, sm_I_wr, sm_I_mx, sm_I_mn] at *
  try generalize E.I ρ (.var 3) = a0 at *
  try generalize E.I ρ (.var 2) = a1 at *
  try generalize E.I ρ (.var 4) = a2 at *
  try generalize E.I ρ (.var 1) = a3 at *
  try generalize E.I ρ (.fn 1 (.pr (.var 0) (.fn 6 (.pr (.fn 8 (.pr (.var 4) (.int 3))) (.int 1))))) = a4 at *
  try generalize E.I ρ (.fn 1 (.pr (.var 0) (.fn 6 (.pr (.fn 8 (.pr (.var 4) (.int 3))) (.int 0))))) = a5 at *
  try generalize E.I ρ (.fn 1 (.pr (.var 0) (.fn 6 (.pr (.fn 8 (.pr (.var 4) (.int 3))) (.int 2))))) = a6 at *
  omega
noncomputable def f25 : E := (.imp (.and (.cmp .lss (.var 4) (.var 1)) (.and (.not (.cmp .lss (.int 50002) (.var 1))) (.and (.not (.cmp .lss (.var 1) (.int 1))) (.and (.not (.cmp .lss (.var 1) (.var 4))) (.and (.not (.cmp .lss (.var 4) (.int 0))) (.and (.not (.cmp .lss (.int 50002) (.var 1))) (.not (.cmp .lss (.var 1) (.int 1))))))))) (.not (.cmp .lss (.fn 7 (.pr (.var 1) (.ar .add .i64 (.var 4) (.int 1)))) (.int 0))))
theorem fact25 (ρ : Env) : E.B ρ f25 = true := by
  unfold f25
  rw [sm_B_imp]
  simp only [sm_B_and]
  rintro ⟨p0, p1, p2, p3, p4, p5, p6⟩
  simp only [sm_I_int, sm_I_fn6, sm_I_fn7, sm_I_fn8, sm_B_bool, sm_B_eql, sm_B_lss, sm_B_not, sm_B_and, sm_B_imp, sm_B_iff, sm_I_add_i64, sm_I_sub_i64, sm_I_mul_i64, sm_I_rem, sm_I_wr, sm_I_mx, sm_I_mn] at *
  try generalize E.I ρ (.var 4) = a0 at *
  try generalize E.I ρ (.var 1) = a1 at *
  obtain ⟨a2, ea2, qa2⟩ := cs_i64 (a0 + (1))
  try simp only [ea2] at *
  omega
noncomputable def f26 : E := (.imp (.and (.cmp .eql (.var 3) (.fn 8 (.pr (.var 2) (.int 2)))) (.and (.not (.cmp .lss (.var 2) (.int 1))) (.and (.fn 100 (.pr (.var 0) (.pr (.var 1) (.pr (.var 1) (.int 1))))) (.and (.cmp .lss (.var 4) (.var 1)) (.and (.cmp .lss (.fn 1 (.pr (.var 0) (.fn 6 (.pr (.fn 8 (.pr (.var 4) (.int 3))) (.int 1))))) (.int 2)) (.and (.not (.cmp .eql (.fn 1 (.pr (.var 0) (.fn 6 (.pr (.fn 8 (.pr (.var 4) (.int 3))) (.int 0))))) (.fn 1 (.pr (.var 0) (.fn 6 (.pr (.fn 8 (.pr (.var 4) (.int 3))) (.int 1))))))) (.and (.not (.cmp .lss (.int 50002) (.var 1))) (.and (.not (.cmp .lss (.var 1) (.int 1))) (.and (.not (.cmp .lss (.var 1) (.var 4))) (.and (.not (.cmp .lss (.var 4) (.int 0))) (.and (.not (.cmp .lss (.int 50002) (.var 1))) (.not (.cmp .lss (.var 1) (.int 1)))))))))))))) (.not (.cmp .lss (.fn 1 (.pr (.var 0) (.fn 6 (.pr (.fn 8 (.pr (.var 4) (.int 3))) (.int 2))))) (.int 1))))
theorem fact26 (ρ : Env) : E.B ρ f26 = true := by
  unfold f26
  rw [sm_B_imp]
  simp only [sm_B_and]
  rintro ⟨p0, p1, p2, p3, p4, p5, p6, p7, p8, p9, p10, p11⟩
  have g0 := rows_get p2 (.var 4)
  clear p2
  simp only [sm_I_int, sm_I_fn6, sm_I_fn7, sm_I_fn8, sm_B_bool, sm_B_eql, sm_B_lss, sm_B_not, sm_B_and, sm_B_imp, sm_B_iff, sm_I_add_i64, sm_I_sub_i64, sm_I_mul_i64, sm_I_rem, sm_I_wr, sm_I_mx, sm_I_mn] at *
  try generalize E.I ρ (.var 3) = a0 at *
  try generalize E.I ρ (.var 2) = a1 at *
  try generalize E.I ρ (.var 4) = a2 at *
  try generalize E.I ρ (.var 1) = a3 at *
  try generalize E.I ρ (.fn 1 (.pr (.var 0) (.fn 6 (.pr (.fn 8 (.pr (.var 4) (.int 3))) (.int 1))))) = a4 at *
  try generalize E.I ρ (.fn 1 (.pr (.var 0) (.fn 6 (.pr (.fn 8 (.pr (.var 4) (.int 3))) (.int 0))))) = a5 at *
  try generalize E.I ρ (.fn 1 (.pr (.var 0) (.fn 6 (.pr (.fn 8 (.pr (.var 4) (.int 3))) (.int 2))))) = a6 at *
  omega
noncomputable def f27 : E := (.imp (.and (.cmp .eql (.var 3) (.fn 8 (.pr (.var 2) (.int 2)))) (.and (.not (.cmp .lss (.var 2) (.int 1))) (.and (.fn 100 (.pr (.var 0) (.pr (.var 1) (.pr (.var 1) (.int 1))))) (.and (.cmp .lss (.var 4) (.var 1)) (.and (.cmp .lss (.fn 1 (.pr (.var 0) (.fn 6 (.pr (.fn 8 (.pr (.var 4) (.int 3))) (.int 1))))) (.int 2)) (.and (.not (.cmp .lss (.int 50002) (.var 1))) (.and (.not (.cmp .lss (.var 1) (.int 1))) (.and (.not (.cmp .lss (.var 1) (.var 4))) (.and (.not (.cmp .lss (.var 4) (.int 0))) (.and (.not (.cmp .lss (.int 50002) (.var 1))) (.not (.cmp .lss (.var 1) (.int 1))))))))))))) (.not (.cmp .eql (.fn 1 (.pr (.var 0) (.fn 6 (.pr (.fn 8 (.pr (.var 4) (.int 3))) (.int 0))))) (.fn 1 (.pr (.var 0) (.fn 6 (.pr (.fn 8 (.pr (.var 4) (.int 3))) (.int 1))))))))
theorem fact27 (ρ : Env) : E.B ρ f27 = true := by
  unfold f27
  rw [sm_B_imp]
  simp only [sm_B_and]
  rintro ⟨p0, p1, p2, p3, p4, p5, p6, p7, p8, p9, p10⟩
  have g0 := rows_get p2 (.var 4)
  clear p2
  simp only [sm_I_int, sm_I_fn6, sm_I_fn7, sm_I_fn8, sm_B_bool, sm_B_eql, sm_B_lss, sm_B_not, sm_B_and, sm_B_imp, sm_B_iff, sm_I_add_i64, sm_I_sub_i64, sm_I_mul_i64, sm_I_rem, sm_I_wr, sm_I_mx, sm_I_mn] at *
  try generalize E.I ρ (.var 3) = a0 at *
  try generalize E.I ρ (.var 2) = a1 at *
  try generalize E.I ρ (.var 4) = a2 at *
  try generalize E.I ρ (.var 1) = a3 at *
  try generalize E.I ρ (.fn 1 (.pr (.var 0) (.fn 6 (.pr (.fn 8 (.pr (.var 4) (.int 3))) (.int 1))))) = a4 at *
  try generalize E.I ρ (.fn 1 (.pr (.var 0) (.fn 6 (.pr (.fn 8 (.pr (.var 4) (.int 3))) (.int 0))))) = a5 at *
  omega
noncomputable def f28 : E := (.imp (.and (.cmp .eql (.var 3) (.fn 8 (.pr (.var 2) (.int 2)))) (.and (.not (.cmp .lss (.var 2) (.int 1))) (.and (.fn 100 (.pr (.var 0) (.pr (.var 1) (.pr (.var 1) (.int 1))))) (.and (.cmp .lss (.var 4) (.var 1)) (.and (.not (.cmp .lss (.int 50002) (.var 1))) (.and (.not (.cmp .lss (.var 1) (.int 1))) (.and (.not (.cmp .lss (.var 1) (.var 4))) (.and (.not (.cmp .lss (.var 4) (.int 0))) (.and (.not (.cmp .lss (.int 50002) (.var 1))) (.not (.cmp .lss (.var 1) (.int 1)))))))))))) (.cmp .lss (.fn 1 (.pr (.var 0) (.fn 6 (.pr (.fn 8 (.pr (.var 4) (.int 3))) (.int 1))))) (.int 2)))
theorem fact28 (ρ : Env) : E.B ρ f28 = true := by
  unfold f28
  rw [sm_B_imp]
  simp only [sm_B_and]
  rintro ⟨p0, p1, p2, p3, p4, p5, p6, p7, p8, p9⟩
  have g0 := rows_get p2 (.var 4)
  clear p2
  simp only [sm_I_int, sm_I_fn6, sm_I_fn7, sm_I_fn8, sm_B_bool, sm_B_eql, sm_B_lss, sm_B_not, sm_B_and, sm_B_imp, sm_B_iff, sm_I_add_i64, sm_I_sub_i64, sm_I_mul_i64, sm_I_rem, sm_I_wr, sm_I_mx, sm_I_mn] at *
  try generalize E.I ρ (.var 3) = a0 at *
  try generalize E.I ρ (.var 2) = a1 at *
  try generalize E.I ρ (.var 4) = a2 at *
  try generalize E.I ρ (.var 1) = a3 at *
  try generalize E.I ρ (.fn 1 (.pr (.var 0) (.fn 6 (.pr (.fn 8 (.pr (.var 4) (.int 3))) (.int 1))))) = a4 at *
  omega
noncomputable def f29 : E := (.imp (.and (.not (.cmp .lss (.int 100000) (.fn 6 (.pr (.var 2) (.var 1))))) (.and (.cmp .eql (.var 3) (.fn 8 (.pr (.var 2) (.int 2)))) (.and (.not (.cmp .lss (.var 2) (.int 1))) (.and (.fn 100 (.pr (.var 0) (.pr (.var 1) (.pr (.var 1) (.int 1))))) (.and (.cmp .lss (.var 8) (.var 1)) (.and (.cmp .eql (.fn 1 (.pr (.var 0) (.fn 6 (.pr (.fn 8 (.pr (.var 8) (.int 3))) (.int 2))))) (.int 1)) (.and (.cmp .eql (.fn 1 (.pr (.var 0) (.fn 6 (.pr (.fn 8 (.pr (.var 8) (.int 3))) (.int 0))))) (.int 0)) (.and (.not (.cmp .eql (.fn 1 (.pr (.var 0) (.fn 6 (.pr (.fn 8 (.pr (.var 8) (.int 3))) (.int 1))))) (.int 0))) (.and (.cmp .eql (.var 9) (.fn 8 (.pr (.var 8) (.int 2)))) (.and (.not (.cmp .lss (.var 1) (.var 8))) (.and (.not (.cmp .lss (.var 8) (.int 0))) (.and (.not (.cmp .lss (.int 50002) (.var 1))) (.and (.not (.cmp .lss (.var 1) (.int 1))) (.and (.not (.cmp .lss (.int 50002) (.var 1))) (.not (.cmp .lss (.var 1) (.int 1))))))))))))))))) (.cmp .eql (.fn 1 (.pr (.var 0) (.fn 6 (.pr (.fn 8 (.pr (.var 8) (.int 3))) (.int 1))))) (.int 1)))
theorem fact29 (ρ : Env) : E.B ρ f29 = true := by
  unfold f29
  rw [sm_B_imp]
  simp only [sm_B_and]
  rintro ⟨p0, p1, p2, p3, p4, p5, p6, p7, p8, p9, p10, p11, p12, p13, p14⟩
  have g0 := rows_get p3 (.var 8)
  clear p3
  simp only [sm_I_int, sm_I_fn6, sm_I_fn7, sm_I_fn8, sm_B_bool, sm_B_eql, sm_B_lss, sm_B_not, sm_B_and, sm_B_imp, sm_B_iff, sm_I_add_i64, sm_I_sub_i64, sm_I_mul_i64, sm_I_rem, sm_I_wr, sm_I_mx, sm_I_mn] at *
  try generalize E.I ρ (.var 2) = a0 at *
  try generalize E.I ρ (.var 1) = a1 at *
  try generalize E.I ρ (.var 3) = a2 at *
  try generalize E.I ρ (.var 8) = a3 at *
  try generalize E.I ρ (.fn 1 (.pr (.var 0) (.fn 6 (.pr (.fn 8 (.pr (.var 8) (.int 3))) (.int 2))))) = a4 at *
  try generalize E.I ρ (.fn 1 (.pr (.var 0) (.fn 6 (.pr (.fn 8 (.pr (.var 8) (.int 3))) (.int 0))))) = a5 at *
  try generalize E.I ρ (.fn 1 (.pr (.var 0) (.fn 6 (.pr (.fn 8 (.pr (.var 8) (.int 3))) (.int 1))))) = a6 at *
  try generalize E.I ρ (.var 9) = a7 at *
  omega
noncomputable def f30 : E := (.imp (.and (.not (.cmp .lss (.int 100000) (.fn 6 (.pr (.var 2) (.var 1))))) (.and (.cmp .eql (.var 3) (.fn 8 (.pr (.var 2) (.int 2)))) (.and (.not (.cmp .lss (.var 2) (.int 1))) (.and (.fn 100 (.pr (.var 0) (.pr (.var 1) (.pr (.var 1) (.int 1))))) (.and (.cmp .lss (.var 8) (.var 1)) (.and (.cmp .eql (.fn 1 (.pr (.var 0) (.fn 6 (.pr (.fn 8 (.pr (.var 8) (.int 3))) (.int 2))))) (.int 1)) (.and (.not (.cmp .eql (.fn 1 (.pr (.var 0) (.fn 6 (.pr (.fn 8 (.pr (.var 8) (.int 3))) (.int 0))))) (.int 0))) (.and (.cmp .eql (.fn 1 (.pr (.var 0) (.fn 6 (.pr (.fn 8 (.pr (.var 8) (.int 3))) (.int 0))))) (.int 1)) (.and (.not (.cmp .eql (.fn 1 (.pr (.var 0) (.fn 6 (.pr (.fn 8 (.pr (.var 8) (.int 3))) (.int 1))))) (.int 0))) (.and (.cmp .eql (.var 9) (.fn 8 (.pr (.var 8) (.int 2)))) (.and (.not (.cmp .lss (.var 1) (.var 8))) (.and (.not (.cmp .lss (.var 8) (.int 0))) (.and (.not (.cmp .lss (.int 50002) (.var 1))) (.and (.not (.cmp .lss (.var 1) (.int 1))) (.and (.not (.cmp .lss (.int 50002) (.var 1))) (.not (.cmp .lss (.var 1) (.int 1)))))))))))))))))) (.cmp .eql (.fn 1 (.pr (.var 0) (.fn 6 (.pr (.fn 8 (.pr (.var 8) (.int 3))) (.int 1))))) (.int 1)))
theorem fact30 (ρ : Env) : E.B ρ f30 = true := by
  unfold f30
  rw [sm_B_imp]
  simp only [sm_B_and]
  rintro ⟨p0, p1, p2, p3, p4, p5, p6, p7, p8, p9, p10, p11, p12, p13, p14, p15⟩
  have g0 := rows_get p3 (.var 8)
  clear p3
  simp only [sm_I_int, sm_I_fn6, sm_I_fn7, sm_I_fn8, sm_B_bool, sm_B_eql, sm_B_lss, sm_B_not, sm_B_and, sm_B_imp, sm_B_iff, sm_I_add_i64, sm_I_sub_i64, sm_I_mul_i64, sm_I_rem, sm_I_wr, sm_I_mx, sm_I_mn] at *
  try generalize E.I ρ (.var 2) = a0 at *
  try generalize E.I ρ (.var 1) = a1 at *
  try generalize E.I ρ (.var 3) = a2 at *
  try generalize E.I ρ (.var 8) = a3 at *
  try generalize E.I ρ (.fn 1 (.pr (.var 0) (.fn 6 (.pr (.fn 8 (.pr (.var 8) (.int 3))) (.int 2))))) = a4 at *
  try generalize E.I ρ (.fn 1 (.pr (.var 0) (.fn 6 (.pr (.fn 8 (.pr (.var 8) (.int 3))) (.int 0))))) = a5 at *
  try generalize E.I ρ (.fn 1 (.pr (.var 0) (.fn 6 (.pr (.fn 8 (.pr (.var 8) (.int 3))) (.int 1))))) = a6 at *
  try generalize E.I ρ (.var 9) = a7 at *
  omega
noncomputable def f31 : E := (.imp (.and (.not (.cmp .lss (.int 100000) (.fn 6 (.pr (.var 2) (.var 1))))) (.and (.cmp .eql (.var 3) (.fn 8 (.pr (.var 2) (.int 2)))) (.and (.not (.cmp .lss (.var 2) (.int 1))) (.and (.fn 100 (.pr (.var 0) (.pr (.var 1) (.pr (.var 1) (.int 1))))) (.and (.cmp .lss (.var 8) (.var 1)) (.and (.cmp .eql (.fn 1 (.pr (.var 0) (.fn 6 (.pr (.fn 8 (.pr (.var 8) (.int 3))) (.int 2))))) (.int 1)) (.and (.not (.cmp .eql (.fn 1 (.pr (.var 0) (.fn 6 (.pr (.fn 8 (.pr (.var 8) (.int 3))) (.int 0))))) (.int 0))) (.and (.cmp .eql (.var 9) (.fn 8 (.pr (.var 8) (.int 2)))) (.and (.not (.cmp .lss (.var 1) (.var 8))) (.and (.not (.cmp .lss (.var 8) (.int 0))) (.and (.not (.cmp .lss (.int 50002) (.var 1))) (.and (.not (.cmp .lss (.var 1) (.int 1))) (.and (.not (.cmp .lss (.int 50002) (.var 1))) (.not (.cmp .lss (.var 1) (.int 1)))))))))))))))) (.cmp .eql (.fn 1 (.pr (.var 0) (.fn 6 (.pr (.fn 8 (.pr (.var 8) (.int 3))) (.int 0))))) (.int 1)))
theorem fact31 (ρ : Env) : E.B ρ f31 = true := by
  unfold f31
  rw [sm_B_imp]
  simp only [sm_B_and]
  rintro ⟨p0, p1, p2, p3, p4, p5, p6, p7, p8, p9, p10, p11, p12, p13⟩
  have g0 := rows_get p3 (.var 8)
  clear p3
  simp only [sm_I_int, sm_I_fn6, sm_I_fn7, sm_I_fn8, sm_B_bool, sm_B_eql, sm_B_lss, sm_B_not, sm_B_and, sm_B_imp, sm_B_iff, sm_I_add_i64, sm_I_sub_i64, sm_I_mul_i64, sm_I_rem, sm_I_wr, sm_I_mx, sm_I_mn] at *
  try generalize E.I ρ (.var 2) = a0 at *
  try generalize E.I ρ (.var 1) = a1 at *
  try generalize E.I ρ (.var 3) = a2 at *
  try generalize E.I ρ (.var 8) = a3 at *
  try generalize E.I ρ (.fn 1 (.pr (.var 0) (.fn 6 (.pr (.fn 8 (.pr (.var 8) (.int 3))) (.int 2))))) = a4 at *
  try generalize E.I ρ (.fn 1 (.pr (.var 0) (.fn 6 (.pr (.fn 8 (.pr (.var 8) (.int 3))) (.int 0))))) = a5 at *
  try generalize E.I ρ (.var 9) = a6 at *
  omega
noncomputable def f32 : E := (.imp (.and (.not (.cmp .lss (.int 100000) (.fn 6 (.pr (.var 2) (.var 1))))) (.and (.cmp .eql (.var 3) (.fn 8 (.pr (.var 2) (.int 2)))) (.and (.not (.cmp .lss (.var 2) (.int 1))) (.and (.fn 100 (.pr (.var 0) (.pr (.var 1) (.pr (.var 1) (.int 1))))) (.and (.cmp .lss (.var 8) (.var 1)) (.and (.not (.cmp .eql (.fn 1 (.pr (.var 0) (.fn 6 (.pr (.fn 8 (.pr (.var 8) (.int 3))) (.int 2))))) (.int 1))) (.and (.cmp .eql (.fn 1 (.pr (.var 0) (.fn 6 (.pr (.fn 8 (.pr (.var 8) (.int 3))) (.int 2))))) (.int 2)) (.and (.cmp .eql (.fn 1 (.pr (.var 0) (.fn 6 (.pr (.fn 8 (.pr (.var 8) (.int 3))) (.int 1))))) (.int 0)) (.and (.not (.cmp .eql (.fn 1 (.pr (.var 0) (.fn 6 (.pr (.fn 8 (.pr (.var 8) (.int 3))) (.int 0))))) (.int 0))) (.and (.cmp .eql (.var 9) (.fn 8 (.pr (.var 8) (.int 2)))) (.and (.not (.cmp .lss (.var 1) (.var 8))) (.and (.not (.cmp .lss (.var 8) (.int 0))) (.and (.not (.cmp .lss (.int 50002) (.var 1))) (.and (.not (.cmp .lss (.var 1) (.int 1))) (.and (.not (.cmp .lss (.int 50002) (.var 1))) (.not (.cmp .lss (.var 1) (.int 1)))))))))))))))))) (.cmp .eql (.fn 1 (.pr (.var 0) (.fn 6 (.pr (.fn 8 (.pr (.var 8) (.int 3))) (.int 0))))) (.int 1)))
theorem fact32 (ρ : Env) : E.B ρ f32 = true := by
  unfold f32
  rw [sm_B_imp]
  simp only [sm_B_and]
  rintro ⟨p0, p1, p2, p3, p4, p5, p6, p7, p8, p9, p10, p11, p12, p13, p14, p15⟩
  have g0 := rows_get p3 (.var 8)
  clear p3
  simp only [sm_I_int, sm_I_fn6, sm_I_fn7, sm_I_fn8, sm_B_bool, sm_B_eql, sm_B_lss, sm_B_not, sm_B_and, sm_B_imp, sm_B_iff, sm_I_add_i64, sm_I_sub_i64, sm_I_mul_i64, sm_I_rem, sm_I_wr, sm_I_mx, sm_I_mn] at *
  try generalize E.I ρ (.var 2) = a0 at *
  try generalize E.I ρ (.var 1) = a1 at *
  try generalize E.I ρ (.var 3) = a2 at *
  try generalize E.I ρ (.var 8) = a3 at *
  try generalize E.I ρ (.fn 1 (.pr (.var 0) (.fn 6 (.pr (.fn 8 (.pr (.var 8) (.int 3))) (.int 2))))) = a4 at *
  try generalize E.I ρ (.fn 1 (.pr (.var 0) (.fn 6 (.pr (.fn 8 (.pr (.var 8) (.int 3))) (.int 1))))) = a5 at *
  try generalize E.I ρ (.fn 1 (.pr (.var 0) (.fn 6 (.pr (.fn 8 (.pr (.var 8) (.int 3))) (.int 0))))) = a6 at *
  try generalize E.I ρ (.var 9) = a7 at *
  omega
noncomputable def f33 : E := (.imp (.and (.cmp .eql (.var 3) (.fn 8 (.pr (.var 2) (.int 2)))) (.and (.not (.cmp .lss (.var 2) (.int 1))) (.and (.fn 100 (.pr (.var 0) (.pr (.var 1) (.pr (.var 1) (.int 1))))) (.and (.cmp .lss (.var 4) (.var 1)) (.and (.not (.cmp .eql (.fn 1 (.pr (.var 0) (.fn 6 (.pr (.fn 8 (.pr (.var 4) (.int 3))) (.int 0))))) (.fn 1 (.pr (.var 0) (.fn 6 (.pr (.fn 8 (.pr (.var 4) (.int 3))) (.int 1))))))) (.and (.not (.cmp .lss (.fn 1 (.pr (.var 0) (.fn 6 (.pr (.fn 8 (.pr (.var 4) (.int 3))) (.int 2))))) (.int 1))) (.and (.not (.cmp .lss (.int 50002) (.var 1))) (.and (.not (.cmp .lss (.var 1) (.int 1))) (.and (.not (.cmp .lss (.var 1) (.var 4))) (.and (.not (.cmp .lss (.var 4) (.int 0))) (.and (.not (.cmp .lss (.int 50002) (.var 1))) (.not (.cmp .lss (.var 1) (.int 1)))))))))))))) (.not (.cmp .lss (.int 3) (.fn 1 (.pr (.var 0) (.fn 6 (.pr (.fn 8 (.pr (.var 4) (.int 3))) (.int 2))))))))
theorem fact33 (ρ : Env) : E.B ρ f33 = true := by
  unfold f33
  rw [sm_B_imp]
  simp only [sm_B_and]
  rintro ⟨p0, p1, p2, p3, p4, p5, p6, p7, p8, p9, p10, p11⟩
  have g0 := rows_get p2 (.var 4)
  clear p2
  simp only [sm_I_int, sm_I_fn6, sm_I_fn7, sm_I_fn8, sm_B_bool, sm_B_eql, sm_B_lss, sm_B_not, sm_B_and, sm_B_imp, sm_B_iff, sm_I_add_i64, sm_I_sub_i64, sm_I_mul_i64, sm_I_rem, sm_I_wr, sm_I_mx, sm_I_mn] at *
  try generalize E.I ρ (.var 3) = a0 at *
  try generalize E.I ρ (.var 2) = a1 at *
  try generalize E.I ρ (.var 4) = a2 at *
  try generalize E.I ρ (.var 1) = a3 at *
  try generalize E.I ρ (.fn 1 (.pr (.var 0) (.fn 6 (.pr (.fn 8 (.pr (.var 4) (.int 3))) (.int 0))))) = a4 at *
  try generalize E.I ρ (.fn 1 (.pr (.var 0) (.fn 6 (.pr (.fn 8 (.pr (.var 4) (.int 3))) (.int 1))))) = a5 at *
  try generalize E.I ρ (.fn 1 (.pr (.var 0) (.fn 6 (.pr (.fn 8 (.pr (.var 4) (.int 3))) (.int 2))))) = a6 at *
  omega
noncomputable def f34 : E := (.imp (.and (.cmp .eql (.var 3) (.fn 8 (.pr (.var 2) (.int 2)))) (.and (.not (.cmp .lss (.var 2) (.int 1))) (.and (.fn 100 (.pr (.var 0) (.pr (.var 1) (.pr (.var 1) (.int 1))))) (.and (.cmp .lss (.var 4) (.var 1)) (.and (.not (.cmp .eql (.fn 1 (.pr (.var 0) (.fn 6 (.pr (.fn 8 (.pr (.var 4) (.int 3))) (.int 0))))) (.fn 1 (.pr (.var 0) (.fn 6 (.pr (.fn 8 (.pr (.var 4) (.int 3))) (.int 1))))))) (.and (.not (.cmp .lss (.int 50002) (.var 1))) (.and (.not (.cmp .lss (.var 1) (.int 1))) (.and (.not (.cmp .lss (.var 1) (.var 4))) (.and (.not (.cmp .lss (.var 4) (.int 0))) (.and (.not (.cmp .lss (.int 50002) (.var 1))) (.not (.cmp .lss (.var 1) (.int 1))))))))))))) (.not (.cmp .lss (.fn 1 (.pr (.var 0) (.fn 6 (.pr (.fn 8 (.pr (.var 4) (.int 3))) (.int 2))))) (.int 1))))
theorem fact34 (ρ : Env) : E.B ρ f34 = true := by
  unfold f34
  rw [sm_B_imp]
  simp only [sm_B_and]
  rintro ⟨p0, p1, p2, p3, p4, p5, p6, p7, p8, p9, p10⟩
  have g0 := rows_get p2 (.var 4)
  clear p2
  simp only [sm_I_int, sm_I_fn6, sm_I_fn7, sm_I_fn8, sm_B_bool, sm_B_eql, sm_B_lss, sm_B_not, sm_B_and, sm_B_imp, sm_B_iff, sm_I_add_i64, sm_I_sub_i64, sm_I_mul_i64, sm_I_rem, sm_I_wr, sm_I_mx, sm_I_mn] at *
  try generalize E.I ρ (.var 3) = a0 at *
  try generalize E.I ρ (.var 2) = a1 at *
  try generalize E.I ρ (.var 4) = a2 at *
  try generalize E.I ρ (.var 1) = a3 at *
  try generalize E.I ρ (.fn 1 (.pr (.var 0) (.fn 6 (.pr (.fn 8 (.pr (.var 4) (.int 3))) (.int 0))))) = a4 at *
  try generalize E.I ρ (.fn 1 (.pr (.var 0) (.fn 6 (.pr (.fn 8 (.pr (.var 4) (.int 3))) (.int 1))))) = a5 at *
  try generalize E.I ρ (.fn 1 (.pr (.var 0) (.fn 6 (.pr (.fn 8 (.pr (.var 4) (.int 3))) (.int 2))))) = a6 at *
  omega
noncomputable def f35 : E := (.imp (.and (.cmp .eql (.var 3) (.fn 8 (.pr (.var 2) (.int 2)))) (.and (.not (.cmp .lss (.var 2) (.int 1))) (.and (.fn 100 (.pr (.var 0) (.pr (.var 1) (.pr (.var 1) (.int 1))))) (.and (.cmp .lss (.var 4) (.var 1)) (.and (.not (.cmp .lss (.int 50002) (.var 1))) (.and (.not (.cmp .lss (.var 1) (.int 1))) (.and (.not (.cmp .lss (.var 1) (.var 4))) (.and (.not (.cmp .lss (.var 4) (.int 0))) (.and (.not (.cmp .lss (.int 50002) (.var 1))) (.not (.cmp .lss (.var 1) (.int 1)))))))))))) (.not (.cmp .eql (.fn 1 (.pr (.var 0) (.fn 6 (.pr (.fn 8 (.pr (.var 4) (.int 3))) (.int 0))))) (.fn 1 (.pr (.var 0) (.fn 6 (.pr (.fn 8 (.pr (.var 4) (.int 3))) (.int 1))))))))
theorem fact35 (ρ : Env) : E.B ρ f35 = true := by
  unfold f35
  rw [sm_B_imp]
  simp only [sm_B_and]
  rintro ⟨p0, p1, p2, p3, p4, p5, p6, p7, p8, p9⟩
  have g0 := rows_get p2 (.var 4)
  clear p2
  simp only [sm_I_int, sm_I_fn6, sm_I_fn7, sm_I_fn8, sm_B_bool, sm_B_eql, sm_B_lss, sm_B_not, sm_B_and, sm_B_imp, sm_B_iff, sm_I_add_i64, sm_I_sub_i64, sm_I_mul_i64, sm_I_rem, sm_I_wr, sm_I_mx, sm_I_mn] at *
  try generalize E.I ρ (.var 3) = a0 at *
  try generalize E.I ρ (.var 2) = a1 at *
  try generalize E.I ρ (.var 4) = a2 at *
  try generalize E.I ρ (.var 1) = a3 at *
  try generalize E.I ρ (.fn 1 (.pr (.var 0) (.fn 6 (.pr (.fn 8 (.pr (.var 4) (.int 3))) (.int 0))))) = a4 at *
  try generalize E.I ρ (.fn 1 (.pr (.var 0) (.fn 6 (.pr (.fn 8 (.pr (.var 4) (.int 3))) (.int 1))))) = a5 at *
  omega
noncomputable def f36 : E := (.imp (.and (.not (.cmp .lss (.int 100000) (.fn 6 (.pr (.var 2) (.var 1))))) (.and (.cmp .eql (.var 3) (.fn 8 (.pr (.var 2) (.int 2)))) (.and (.not (.cmp .lss (.var 2) (.int 1))) (.and (.fn 100 (.pr (.var 0) (.pr (.var 1) (.pr (.var 1) (.int 1))))) (.and (.cmp .lss (.var 8) (.var 1)) (.and (.cmp .eql (.fn 1 (.pr (.var 0) (.fn 6 (.pr (.fn 8 (.pr (.var 8) (.int 3))) (.int 2))))) (.int 1)) (.and (.not (.cmp .eql (.fn 1 (.pr (.var 0) (.fn 6 (.pr (.fn 8 (.pr (.var 8) (.int 3))) (.int 0))))) (.int 0))) (.and (.not (.cmp .eql (.fn 1 (.pr (.var 0) (.fn 6 (.pr (.fn 8 (.pr (.var 8) (.int 3))) (.int 1))))) (.int 0))) (.and (.cmp .eql (.var 9) (.fn 8 (.pr (.var 8) (.int 2)))) (.and (.not (.cmp .lss (.var 1) (.var 8))) (.and (.not (.cmp .lss (.var 8) (.int 0))) (.and (.not (.cmp .lss (.int 50002) (.var 1))) (.and (.not (.cmp .lss (.var 1) (.int 1))) (.and (.not (.cmp .lss (.int 50002) (.var 1))) (.not (.cmp .lss (.var 1) (.int 1))))))))))))))))) (.cmp .eql (.fn 1 (.pr (.var 0) (.fn 6 (.pr (.fn 8 (.pr (.var 8) (.int 3))) (.int 1))))) (.int 1)))
theorem fact36 (ρ : Env) : E.B ρ f36 = true := by
  unfold f36
  rw [sm_B_imp]
  simp only [sm_B_and]
  rintro ⟨p0, p1, p2, p3, p4, p5, p6, p7, p8, p9, p10, p11, p12, p13, p14⟩
  have g0 := rows_get p3 (.var 8)
  clear p3
  simp only [sm_I_int, sm_I_fn6, sm_I_fn7, sm_I_fn8, sm_B_bool, sm_B_eql, sm_B_lss, sm_B_not, sm_B_and, sm_B_imp, sm_B_iff, sm_I_add_i64, sm_I_sub_i64, sm_I_mul_i64, sm_I_rem, sm_I_wr, sm_I_mx, sm_I_mn] at *
  try generalize E.I ρ (.var 2) = a0 at *
  try generalize E.I ρ (.var 1) = a1 at *
  try generalize E.I ρ (.var 3) = a2 at *
  try generalize E.I ρ (.var 8) = a3 at *
  try generalize E.I ρ (.fn 1 (.pr (.var 0) (.fn 6 (.pr (.fn 8 (.pr (.var 8) (.int 3))) (.int 2))))) = a4 at *
  try generalize E.I ρ (.fn 1 (.pr (.var 0) (.fn 6 (.pr (.fn 8 (.pr (.var 8) (.int 3))) (.int 0))))) = a5 at *
  try generalize E.I ρ (.fn 1 (.pr (.var 0) (.fn 6 (.pr (.fn 8 (.pr (.var 8) (.int 3))) (.int 1))))) = a6 at *
  try generalize E.I ρ (.var 9) = a7 at *
  omega
noncomputable def f37 : E := (.imp (.and (.not (.cmp .lss (.int 100000) (.fn 6 (.pr (.var 2) (.var 1))))) (.and (.cmp .eql (.var 3) (.fn 8 (.pr (.var 2) (.int 2)))) (.and (.not (.cmp .lss (.var 2) (.int 1))) (.and (.fn 100 (.pr (.var 0) (.pr (.var 1) (.pr (.var 1) (.int 1))))) (.and (.cmp .lss (.var 8) (.var 1)) (.and (.not (.cmp .eql (.fn 1 (.pr (.var 0) (.fn 6 (.pr (.fn 8 (.pr (.var 8) (.int 3))) (.int 2))))) (.int 1))) (.and (.cmp .eql (.fn 1 (.pr (.var 0) (.fn 6 (.pr (.fn 8 (.pr (.var 8) (.int 3))) (.int 2))))) (.int 2)) (.and (.not (.cmp .eql (.fn 1 (.pr (.var 0) (.fn 6 (.pr (.fn 8 (.pr (.var 8) (.int 3))) (.int 1))))) (.int 0))) (.and (.cmp .eql (.fn 1 (.pr (.var 0) (.fn 6 (.pr (.fn 8 (.pr (.var 8) (.int 3))) (.int 1))))) (.int 1)) (.and (.not (.cmp .eql (.fn 1 (.pr (.var 0) (.fn 6 (.pr (.fn 8 (.pr (.var 8) (.int 3))) (.int 0))))) (.int 0))) (.and (.cmp .eql (.var 9) (.fn 8 (.pr (.var 8) (.int 2)))) (.and (.not (.cmp .lss (.var 1) (.var 8))) (.and (.not (.cmp .lss (.var 8) (.int 0))) (.and (.not (.cmp .lss (.int 50002) (.var 1))) (.and (.not (.cmp .lss (.var 1) (.int 1))) (.and (.not (.cmp .lss (.int 50002) (.var 1))) (.not (.cmp .lss (.var 1) (.int 1))))))))))))))))))) (.cmp .eql (.fn 1 (.pr (.var 0) (.fn 6 (.pr (.fn 8 (.pr (.var 8) (.int 3))) (.int 0))))) (.int 1)))
theorem fact37 (ρ : Env) : E.B ρ f37 = true := by
  unfold f37
  rw [sm_B_imp]
  simp only [sm_B_and]
  rintro ⟨p0, p1, p2, p3, p4, p5, p6, p7, p8, p9, p10, p11, p12, p13, p14, p15, p16⟩
  have g0 := rows_get p3 (.var 8)
  clear p3
  simp only [sm_I_int, sm_I_fn6, sm_I_fn7, sm_I_fn8, sm_B_bool, sm_B_eql, sm_B_lss, sm_B_not, sm_B_and, sm_B_imp, sm_B_iff, sm_I_add_i64, sm_I_sub_i64, sm_I_mul_i64, sm_I_rem, sm_I_wr, sm_I_mx, sm_I_mn] at *
  try generalize E.I ρ (.var 2) = a0 at *
  try generalize E.I ρ (.var 1) = a1 at *
  try generalize E.I ρ (.var 3) = a2 at *
  try generalize E.I ρ (.var 8) = a3 at *
  try generalize E.I ρ (.fn 1 (.pr (.var 0) (.fn 6 (.pr (.fn 8 (.pr (.var 8) (.int 3))) (.int 2))))) = a4 at *
  try generalize E.I ρ (.fn 1 (.pr (.var 0) (.fn 6 (.pr (.fn 8 (.pr (.var 8) (.int 3))) (.int 1))))) = a5 at *
  try generalize E.I ρ (.fn 1 (.pr (.var 0) (.fn 6 (.pr (.fn 8 (.pr (.var 8) (.int 3))) (.int 0))))) = a6 at *
  try generalize E.I ρ (.var 9) = a7 at *
  omega
noncomputable def f38 : E := (.imp (.and (.not (.cmp .lss (.int 100000) (.fn 6 (.pr (.var 2) (.var 1))))) (.and (.cmp .eql (.var 3) (.fn 8 (.pr (.var 2) (.int 2)))) (.and (.not (.cmp .lss (.var 2) (.int 1))) (.and (.fn 100 (.pr (.var 0) (.pr (.var 1) (.pr (.var 1) (.int 1))))) (.and (.cmp .lss (.var 8) (.var 1)) (.and (.not (.cmp .eql (.fn 1 (.pr (.var 0) (.fn 6 (.pr (.fn 8 (.pr (.var 8) (.int 3))) (.int 2))))) (.int 1))) (.and (.cmp .eql (.fn 1 (.pr (.var 0) (.fn 6 (.pr (.fn 8 (.pr (.var 8) (.int 3))) (.int 2))))) (.int 2)) (.and (.not (.cmp .eql (.fn 1 (.pr (.var 0) (.fn 6 (.pr (.fn 8 (.pr (.var 8) (.int 3))) (.int 1))))) (.int 0))) (.and (.cmp .eql (.var 9) (.fn 8 (.pr (.var 8) (.int 2)))) (.and (.not (.cmp .lss (.var 1) (.var 8))) (.and (.not (.cmp .lss (.var 8) (.int 0))) (.and (.not (.cmp .lss (.int 50002) (.var 1))) (.and (.not (.cmp .lss (.var 1) (.int 1))) (.and (.not (.cmp .lss (.int 50002) (.var 1))) (.not (.cmp .lss (.var 1) (.int 1))))))))))))))))) (.cmp .eql (.fn 1 (.pr (.var 0) (.fn 6 (.pr (.fn 8 (.pr (.var 8) (.int 3))) (.int 1))))) (.int 1)))
theorem fact38 (ρ : Env) : E.B ρ f38 = true := by
  unfold f38
  rw [sm_B_imp]
  simp only [sm_B_and]
  rintro ⟨p0, p1, p2, p3, p4, p5, p6, p7, p8, p9, p10, p11, p12, p13, p14⟩
  have g0 := rows_get p3 (.var 8)
  clear p3
  simp only [sm_I_int, sm_I_fn6, sm_I_fn7, sm_I_fn8, sm_B_bool, sm_B_eql, sm_B_lss, sm_B_not, sm_B_and, sm_B_imp, sm_B_iff, sm_I_add_i64, sm_I_sub_i64, sm_I_mul_i64, sm_I_rem, sm_I_wr, sm_I_mx, sm_I_mn] at *
  try generalize E.I ρ (.var 2) = a0 at *
  try generalize E.I ρ (.var 1) = a1 at *
  try generalize E.I ρ (.var 3) = a2 at *
  try generalize E.I ρ (.var 8) = a3 at *
  try generalize E.I ρ (.fn 1 (.pr (.var 0) (.fn 6 (.pr (.fn 8 (.pr (.var 8) (.int 3))) (.int 2))))) = a4 at *
  try generalize E.I ρ (.fn 1 (.pr (.var 0) (.fn 6 (.pr (.fn 8 (.pr (.var 8) (.int 3))) (.int 1))))) = a5 at *
  try generalize E.I ρ (.var 9) = a6 at *
  omega
noncomputable def f39 : E := (.imp (.and (.not (.cmp .lss (.int 100000) (.fn 6 (.pr (.var 2) (.var 1))))) (.and (.cmp .eql (.var 3) (.fn 8 (.pr (.var 2) (.int 2)))) (.and (.not (.cmp .lss (.var 2) (.int 1))) (.and (.fn 100 (.pr (.var 0) (.pr (.var 1) (.pr (.var 1) (.int 1))))) (.and (.cmp .lss (.var 8) (.var 1)) (.and (.not (.cmp .eql (.fn 1 (.pr (.var 0) (.fn 6 (.pr (.fn 8 (.pr (.var 8) (.int 3))) (.int 2))))) (.int 1))) (.and (.not (.cmp .eql (.fn 1 (.pr (.var 0) (.fn 6 (.pr (.fn 8 (.pr (.var 8) (.int 3))) (.int 2))))) (.int 2))) (.and (.cmp .eql (.fn 1 (.pr (.var 0) (.fn 6 (.pr (.fn 8 (.pr (.var 8) (.int 3))) (.int 0))))) (.int 0)) (.and (.not (.cmp .eql (.fn 1 (.pr (.var 0) (.fn 6 (.pr (.fn 8 (.pr (.var 8) (.int 3))) (.int 1))))) (.int 0))) (.and (.cmp .eql (.var 9) (.fn 8 (.pr (.var 8) (.int 2)))) (.and (.not (.cmp .lss (.var 1) (.var 8))) (.and (.not (.cmp .lss (.var 8) (.int 0))) (.and (.not (.cmp .lss (.int 50002) (.var 1))) (.and (.not (.cmp .lss (.var 1) (.int 1))) (.and (.not (.cmp .lss (.int 50002) (.var 1))) (.not (.cmp .lss (.var 1) (.int 1)))))))))))))))))) (.cmp .eql (.fn 1 (.pr (.var 0) (.fn 6 (.pr (.fn 8 (.pr (.var 8) (.int 3))) (.int 1))))) (.int 1)))
theorem fact39 (ρ : Env) : E.B ρ f39 = true := by
  unfold f39
  rw [sm_B_imp]
  simp only [sm_B_and]
  rintro ⟨p0, p1, p2, p3, p4, p5, p6, p7, p8, p9, p10, p11, p12, p13, p14, p15⟩
  have g0 := rows_get p3 (.var 8)
  clear p3
  simp only [sm_I_int, sm_I_fn6, sm_I_fn7, sm_I_fn8, sm_B_bool, sm_B_eql, sm_B_lss, sm_B_not, sm_B_and, sm_B_imp, sm_B_iff, sm_I_add_i64, sm_I_sub_i64, sm_I_mul_i64, sm_I_rem, sm_I_wr, sm_I_mx, sm_I_mn] at *
  try generalize E.I ρ (.var 2) = a0 at *
  try generalize E.I ρ (.var 1) = a1 at *
  try generalize E.I ρ (.var 3) = a2 at *
  try generalize E.I ρ (.var 8) = a3 at *
  try generalize E.I ρ (.fn 1 (.pr (.var 0) (.fn 6 (.pr (.fn 8 (.pr (.var 8) (.int 3))) (.int 2))))) = a4 at *
  try generalize E.I ρ (.fn 1 (.pr (.var 0) (.fn 6 (.pr (.fn 8 (.pr (.var 8) (.int 3))) (.int 0))))) = a5 at *
  try generalize E.I ρ (.fn 1 (.pr (.var 0) (.fn 6 (.pr (.fn 8 (.pr (.var 8) (.int 3))) (.int 1))))) = a6 at *
  try generalize E.I ρ (.var 9) = a7 at *
  omega
noncomputable def f40 : E := (.imp (.and (.not (.cmp .lss (.int 100000) (.fn 6 (.pr (.var 2) (.var 1))))) (.and (.cmp .eql (.var 3) (.fn 8 (.pr (.var 2) (.int 2)))) (.and (.not (.cmp .lss (.var 2) (.int 1))) (.and (.fn 100 (.pr (.var 0) (.pr (.var 1) (.pr (.var 1) (.int 1))))) (.and (.cmp .lss (.var 8) (.var 1)) (.and (.not (.cmp .eql (.fn 1 (.pr (.var 0) (.fn 6 (.pr (.fn 8 (.pr (.var 8) (.int 3))) (.int 2))))) (.int 1))) (.and (.not (.cmp .eql (.fn 1 (.pr (.var 0) (.fn 6 (.pr (.fn 8 (.pr (.var 8) (.int 3))) (.int 2))))) (.int 2))) (.and (.not (.cmp .eql (.fn 1 (.pr (.var 0) (.fn 6 (.pr (.fn 8 (.pr (.var 8) (.int 3))) (.int 0))))) (.int 0))) (.and (.cmp .eql (.fn 1 (.pr (.var 0) (.fn 6 (.pr (.fn 8 (.pr (.var 8) (.int 3))) (.int 0))))) (.int 1)) (.and (.not (.cmp .eql (.fn 1 (.pr (.var 0) (.fn 6 (.pr (.fn 8 (.pr (.var 8) (.int 3))) (.int 1))))) (.int 0))) (.and (.cmp .eql (.var 9) (.fn 8 (.pr (.var 8) (.int 2)))) (.and (.not (.cmp .lss (.var 1) (.var 8))) (.and (.not (.cmp .lss (.var 8) (.int 0))) (.and (.not (.cmp .lss (.int 50002) (.var 1))) (.and (.not (.cmp .lss (.var 1) (.int 1))) (.and (.not (.cmp .lss (.int 50002) (.var 1))) (.not (.cmp .lss (.var 1) (.int 1))))))))))))))))))) (.cmp .eql (.fn 1 (.pr (.var 0) (.fn 6 (.pr (.fn 8 (.pr (.var 8) (.int 3))) (.int 1))))) (.int 1)))
theorem fact40 (ρ : Env) : E.B ρ f40 = true := by
  unfold f40
  rw [sm_B_imp]
  simp only [sm_B_and]
  rintro ⟨p0, p1, p2, p3, p4, p5, p6, p7, p8, p9, p10, p11, p12, p13, p14, p15, p16⟩
  have g0 := rows_get p3 (.var 8)
  clear p3
  simp only [sm_I_int, sm_I_fn6, sm_I_fn7, sm_I_fn8, sm_B_bool, sm_B_eql, sm_B_lss, sm_B_not, sm_B_and, sm_B_imp, sm_B_iff, sm_I_add_i64, sm_I_sub_i64, sm_I_mul_i64, sm_I_rem, sm_I_wr, sm_I_mx, sm_I_mn] at *
  try generalize E.I ρ (.var 2) = a0 at *
  try generalize E.I ρ (.var 1) = a1 at *
  try generalize E.I ρ (.var 3) = a2 at *
  try generalize E.I ρ (.var 8) = a3 at *
  try generalize E.I ρ (.fn 1 (.pr (.var 0) (.fn 6 (.pr (.fn 8 (.pr (.var 8) (.int 3))) (.int 2))))) = a4 at *
  try generalize E.I ρ (.fn 1 (.pr (.var 0) (.fn 6 (.pr (.fn 8 (.pr (.var 8) (.int 3))) (.int 0))))) = a5 at *
  try generalize E.I ρ (.fn 1 (.pr (.var 0) (.fn 6 (.pr (.fn 8 (.pr (.var 8) (.int 3))) (.int 1))))) = a6 at *
  try generalize E.I ρ (.var 9) = a7 at *
  omega
noncomputable def f41 : E := (.imp (.and (.not (.cmp .lss (.int 100000) (.fn 6 (.pr (.var 2) (.var 1))))) (.and (.cmp .eql (.var 3) (.fn 8 (.pr (.var 2) (.int 2)))) (.and (.not (.cmp .lss (.var 2) (.int 1))) (.and (.fn 100 (.pr (.var 0) (.pr (.var 1) (.pr (.var 1) (.int 1))))) (.and (.cmp .lss (.var 8) (.var 1)) (.and (.not (.cmp .eql (.fn 1 (.pr (.var 0) (.fn 6 (.pr (.fn 8 (.pr (.var 8) (.int 3))) (.int 2))))) (.int 1))) (.and (.not (.cmp .eql (.fn 1 (.pr (.var 0) (.fn 6 (.pr (.fn 8 (.pr (.var 8) (.int 3))) (.int 2))))) (.int 2))) (.and (.not (.cmp .eql (.fn 1 (.pr (.var 0) (.fn 6 (.pr (.fn 8 (.pr (.var 8) (.int 3))) (.int 0))))) (.int 0))) (.and (.cmp .eql (.var 9) (.fn 8 (.pr (.var 8) (.int 2)))) (.and (.not (.cmp .lss (.var 1) (.var 8))) (.and (.not (.cmp .lss (.var 8) (.int 0))) (.and (.not (.cmp .lss (.int 50002) (.var 1))) (.and (.not (.cmp .lss (.var 1) (.int 1))) (.and (.not (.cmp .lss (.int 50002) (.var 1))) (.not (.cmp .lss (.var 1) (.int 1))))))))))))))))) (.cmp .eql (.fn 1 (.pr (.var 0) (.fn 6 (.pr (.fn 8 (.pr (.var 8) (.int 3))) (.int 0))))) (.int 1)))
theorem fact41 (ρ : Env) : E.B ρ f41 = true := by
  unfold f41
  rw [sm_B_imp]
  simp only [sm_B_and]
  rintro ⟨p0, p1, p2, p3, p4, p5, p6, p7, p8, p9, p10, p11, p12, p13, p14⟩
  have g0 := rows_get p3 (.var 8)
  clear p3
  simp only [sm_I_int, sm_I_fn6, sm_I_fn7, sm_I_fn8, sm_B_bool, sm_B_eql, sm_B_lss, sm_B_not, sm_B_and, sm_B_imp, sm_B_iff, sm_I_add_i64, sm_I_sub_i64, sm_I_mul_i64, sm_I_rem, sm_I_wr, sm_I_mx, sm_I_mn] at *
  try generalize E.I ρ (.var 2) = a0 at *
  try generalize E.I ρ (.var 1) = a1 at *
  try generalize E.I ρ (.var 3) = a2 at *
  try generalize E.I ρ (.var 8) = a3 at *
  try generalize E.I ρ (.fn 1 (.pr (.var 0) (.fn 6 (.pr (.fn 8 (.pr (.var 8) (.int 3))) (.int 2))))) = a4 at *
  try generalize E.I ρ (.fn 1 (.pr (.var 0) (.fn 6 (.pr (.fn 8 (.pr (.var 8) (.int 3))) (.int 0))))) = a5 at *
  try generalize E.I ρ (.var 9) = a6 at *
  omega
noncomputable def f42 : E := (.imp (.and (.cmp .eql (.var 3) (.fn 8 (.pr (.var 2) (.int 2)))) (.and (.not (.cmp .lss (.var 2) (.int 1))) (.and (.fn 100 (.pr (.var 0) (.pr (.var 1) (.pr (.var 1) (.int 1))))) (.and (.cmp .lss (.var 4) (.var 1)) (.and (.not (.cmp .lss (.fn 1 (.pr (.var 0) (.fn 6 (.pr (.fn 8 (.pr (.var 4) (.int 3))) (.int 2))))) (.int 1))) (.and (.not (.cmp .lss (.int 50002) (.var 1))) (.and (.not (.cmp .lss (.var 1) (.int 1))) (.and (.not (.cmp .lss (.var 1) (.var 4))) (.and (.not (.cmp .lss (.var 4) (.int 0))) (.and (.not (.cmp .lss (.int 50002) (.var 1))) (.not (.cmp .lss (.var 1) (.int 1))))))))))))) (.not (.cmp .lss (.int 3) (.fn 1 (.pr (.var 0) (.fn 6 (.pr (.fn 8 (.pr (.var 4) (.int 3))) (.int 2))))))))
theorem fact42 (ρ : Env) : E.B ρ f42 = true := by
  unfold f42
  rw [sm_B_imp]
  simp only [sm_B_and]
  rintro ⟨p0, p1, p2, p3, p4, p5, p6, p7, p8, p9, p10⟩
  have g0 := rows_get p2 (.var 4)
  clear p2
  simp only [sm_I_int, sm_I_fn6, sm_I_fn7, sm_I_fn8, sm_B_bool, sm_B_eql, sm_B_lss, sm_B_not, sm_B_and, sm_B_imp, sm_B_iff, sm_I_add_i64, sm_I_sub_i64, sm_I_mul_i64, sm_I_rem, sm_I_wr, sm_I_mx, sm_I_mn] at *
  try generalize E.I ρ (.var 3) = a0 at *
  try generalize E.I ρ (.var 2) = a1 at *
  try generalize E.I ρ (.var 4) = a2 at *
  try generalize E.I ρ (.var 1) = a3 at *
  try generalize E.I ρ (.fn 1 (.pr (.var 0) (.fn 6 (.pr (.fn 8 (.pr (.var 4) (.int 3))) (.int 2))))) = a4 at *
  omega
noncomputable def f43 : E := (.imp (.and (.cmp .eql (.var 3) (.fn 8 (.pr (.var 2) (.int 2)))) (.and (.not (.cmp .lss (.var 2) (.int 1))) (.and (.fn 100 (.pr (.var 0) (.pr (.var 1) (.pr (.var 1) (.int 1))))) (.and (.cmp .lss (.var 4) (.var 1)) (.and (.not (.cmp .lss (.int 50002) (.var 1))) (.and (.not (.cmp .lss (.var 1) (.int 1))) (.and (.not (.cmp .lss (.var 1) (.var 4))) (.and (.not (.cmp .lss (.var 4) (.int 0))) (.and (.not (.cmp .lss (.int 50002) (.var 1))) (.not (.cmp .lss (.var 1) (.int 1)))))))))))) (.not (.cmp .lss (.fn 1 (.pr (.var 0) (.fn 6 (.pr (.fn 8 (.pr (.var 4) (.int 3))) (.int 2))))) (.int 1))))
theorem fact43 (ρ : Env) : E.B ρ f43 = true := by
  unfold f43
  rw [sm_B_imp]
  simp only [sm_B_and]
  rintro ⟨p0, p1, p2, p3, p4, p5, p6, p7, p8, p9⟩
  have g0 := rows_get p2 (.var 4)
  clear p2
  simp only [sm_I_int, sm_I_fn6, sm_I_fn7, sm_I_fn8, sm_B_bool, sm_B_eql, sm_B_lss, sm_B_not, sm_B_and, sm_B_imp, sm_B_iff, sm_I_add_i64, sm_I_sub_i64, sm_I_mul_i64, sm_I_rem, sm_I_wr, sm_I_mx, sm_I_mn] at *
  try generalize E.I ρ (.var 3) = a0 at *
  try generalize E.I ρ (.var 2) = a1 at *
  try generalize E.I ρ (.var 4) = a2 at *
  try generalize E.I ρ (.var 1) = a3 at *
  try generalize E.I ρ (.fn 1 (.pr (.var 0) (.fn 6 (.pr (.fn 8 (.pr (.var 4) (.int 3))) (.int 2))))) = a4 at *
  omega
noncomputable def f44 : E := (.imp (.and (.not (.cmp .lss (.int 100000) (.fn 6 (.pr (.var 2) (.var 1))))) (.and (.cmp .eql (.var 3) (.fn 8 (.pr (.var 2) (.int 2)))) (.and (.not (.cmp .lss (.var 2) (.int 1))) (.and (.fn 100 (.pr (.var 0) (.pr (.var 1) (.pr (.var 1) (.int 1))))) (.and (.cmp .lss (.var 8) (.var 1)) (.and (.cmp .eql (.fn 1 (.pr (.var 0) (.fn 6 (.pr (.fn 8 (.pr (.var 8) (.int 3))) (.int 2))))) (.int 1)) (.and (.not (.cmp .eql (.fn 1 (.pr (.var 0) (.fn 6 (.pr (.fn 8 (.pr (.var 8) (.int 3))) (.int 0))))) (.int 0))) (.and (.cmp .eql (.var 9) (.fn 8 (.pr (.var 8) (.int 2)))) (.and (.not (.cmp .lss (.var 1) (.var 8))) (.and (.not (.cmp .lss (.var 8) (.int 0))) (.and (.not (.cmp .lss (.int 50002) (.var 1))) (.and (.not (.cmp .lss (.var 1) (.int 1))) (.and (.not (.cmp .lss (.int 50002) (.var 1))) (.not (.cmp .lss (.var 1) (.int 1)))))))))))))))) (.cmp .eql (.fn 1 (.pr (.var 0) (.fn 6 (.pr (.fn 8 (.pr (.var 8) (.int 3))) (.int 1))))) (.int 0)))
theorem fact44 (ρ : Env) : E.B ρ f44 = true := by
  unfold f44
  rw [sm_B_imp]
  simp only [sm_B_and]
  rintro ⟨p0, p1, p2, p3, p4, p5, p6, p7, p8, p9, p10, p11, p12, p13⟩
  have g0 := rows_get p3 (.var 8)
  clear p3
  simp only [sm_I_int, sm_I_fn6, sm_I_fn7, sm_I_fn8, sm_B_bool, sm_B_eql, sm_B_lss, sm_B_not, sm_B_and, sm_B_imp, sm_B_iff, sm_I_add_i64, sm_I_sub_i64, sm_I_mul_i64, sm_I_rem, sm_I_wr, sm_I_mx, sm_I_mn] at *
  try generalize E.I ρ (.var 2) = a0 at *
  try generalize E.I ρ (.var 1) = a1 at *
  try generalize E.I ρ (.var 3) = a2 at *
  try generalize E.I ρ (.var 8) = a3 at *
  try generalize E.I ρ (.fn 1 (.pr (.var 0) (.fn 6 (.pr (.fn 8 (.pr (.var 8) (.int 3))) (.int 2))))) = a4 at *
  try generalize E.I ρ (.fn 1 (.pr (.var 0) (.fn 6 (.pr (.fn 8 (.pr (.var 8) (.int 3))) (.int 0))))) = a5 at *
  try generalize E.I ρ (.var 9) = a6 at *
  try generalize E.I ρ (.fn 1 (.pr (.var 0) (.fn 6 (.pr (.fn 8 (.pr (.var 8) (.int 3))) (.int 1))))) = a7 at *
  omega
noncomputable def f45 : E := (.imp (.and (.cmp .eql (.var 9) (.fn 8 (.pr (.var 8) (.int 2)))) (.and (.not (.cmp .lss (.var 1) (.var 8))) (.and (.not (.cmp .lss (.var 8) (.int 0))) (.and (.not (.cmp .lss (.int 50002) (.var 1))) (.and (.not (.cmp .lss (.var 1) (.int 1))) (.and (.not (.cmp .lss (.int 50002) (.var 1))) (.not (.cmp .lss (.var 1) (.int 1))))))))) (.not (.cmp .lss (.ar .add .i64 (.var 8) (.int 1)) (.int 0))))
theorem fact45 (ρ : Env) : E.B ρ f45 = true := by
  unfold f45
  rw [sm_B_imp]
  simp only [sm_B_and]
  rintro ⟨p0, p1, p2, p3, p4, p5, p6⟩
  simp only [sm_I_int, sm_I_fn6, sm_I_fn7, sm_I_fn8, sm_B_bool, sm_B_eql, sm_B_lss, sm_B_not, sm_B_and, sm_B_imp, sm_B_iff, sm_I_add_i64, sm_I_sub_i64, sm_I_mul_i64, sm_I_rem, sm_I_wr, sm_I_mx, sm_I_mn] at *
  try generalize E.I ρ (.var 9) = a0 at *
  try generalize E.I ρ (.var 8) = a1 at *
  try generalize E.I ρ (.var 1) = a2 at *
  obtain ⟨a3, ea3, qa3⟩ := cs_i64 (a1 + (1))
  try simp only [ea3] at *
  omega
noncomputable def f46 : E := (.imp (.and (.not (.cmp .lss (.int 100000) (.fn 6 (.pr (.var 2) (.var 1))))) (.and (.cmp .eql (.var 3) (.fn 8 (.pr (.var 2) (.int 2)))) (.and (.not (.cmp .lss (.var 2) (.int 1))) (.and (.fn 100 (.pr (.var 0) (.pr (.var 1) (.pr (.var 1) (.int 1))))) (.and (.cmp .lss (.var 8) (.var 1)) (.and (.cmp .eql (.fn 1 (.pr (.var 0) (.fn 6 (.pr (.fn 8 (.pr (.var 8) (.int 3))) (.int 2))))) (.int 1)) (.and (.cmp .eql (.fn 1 (.pr (.var 0) (.fn 6 (.pr (.fn 8 (.pr (.var 8) (.int 3))) (.int 0))))) (.int 0)) (.and (.cmp .eql (.var 9) (.fn 8 (.pr (.var 8) (.int 2)))) (.and (.not (.cmp .lss (.var 1) (.var 8))) (.and (.not (.cmp .lss (.var 8) (.int 0))) (.and (.not (.cmp .lss (.int 50002) (.var 1))) (.and (.not (.cmp .lss (.var 1) (.int 1))) (.and (.not (.cmp .lss (.int 50002) (.var 1))) (.not (.cmp .lss (.var 1) (.int 1)))))))))))))))) (.cmp .eql (.fn 1 (.pr (.var 0) (.fn 6 (.pr (.fn 8 (.pr (.var 8) (.int 3))) (.int 1))))) (.int 0)))
theorem fact46 (ρ : Env) : E.B ρ f46 = true := by
  unfold f46
  rw [sm_B_imp]
  simp only [sm_B_and]
  rintro ⟨p0, p1, p2, p3, p4, p5, p6, p7, p8, p9, p10, p11, p12, p13⟩
  have g0 := rows_get p3 (.var 8)
  clear p3
  simp only [sm_I_int, sm_I_fn6, sm_I_fn7, sm_I_fn8, sm_B_bool, sm_B_eql, sm_B_lss, sm_B_not, sm_B_and, sm_B_imp, sm_B_iff, sm_I_add_i64, sm_I_sub_i64, sm_I_mul_i64, sm_I_rem, sm_I_wr, sm_I_mx, sm_I_mn] at *
  try generalize E.I ρ (.var 2) = a0 at *
  try generalize E.I ρ (.var 1) = a1 at *
  try generalize E.I ρ (.var 3) = a2 at *
  try generalize E.I ρ (.var 8) = a3 at *
  try generalize E.I ρ (.fn 1 (.pr (.var 0) (.fn 6 (.pr (.fn 8 (.pr (.var 8) (.int 3))) (.int 2))))) = a4 at *
  try generalize E.I ρ (.fn 1 (.pr (.var 0) (.fn 6 (.pr (.fn 8 (.pr (.var 8) (.int 3))) (.int 0))))) = a5 at *
  try generalize E.I ρ (.var 9) = a6 at *
  try generalize E.I ρ (.fn 1 (.pr (.var 0) (.fn 6 (.pr (.fn 8 (.pr (.var 8) (.int 3))) (.int 1))))) = a7 at *
  omega
noncomputable def f47 : E := (.imp (.and (.not (.cmp .lss (.int 100000) (.fn 6 (.pr (.var 2) (.var 1))))) (.and (.cmp .eql (.var 3) (.fn 8 (.pr (.var 2) (.int 2)))) (.and (.not (.cmp .lss (.var 2) (.int 1))) (.and (.fn 100 (.pr (.var 0) (.pr (.var 1) (.pr (.var 1) (.int 1))))) (.and (.cmp .lss (.var 8) (.var 1)) (.and (.cmp .eql (.fn 1 (.pr (.var 0) (.fn 6 (.pr (.fn 8 (.pr (.var 8) (.int 3))) (.int 2))))) (.int 1)) (.and (.cmp .eql (.fn 1 (.pr (.var 0) (.fn 6 (.pr (.fn 8 (.pr (.var 8) (.int 3))) (.int 0))))) (.int 0)) (.and (.cmp .eql (.var 9) (.fn 8 (.pr (.var 8) (.int 2)))) (.and (.not (.cmp .lss (.var 1) (.var 8))) (.and (.not (.cmp .lss (.var 8) (.int 0))) (.and (.not (.cmp .lss (.int 50002) (.var 1))) (.and (.not (.cmp .lss (.var 1) (.int 1))) (.and (.not (.cmp .lss (.int 50002) (.var 1))) (.not (.cmp .lss (.var 1) (.int 1)))))))))))))))) (.not (.cmp .eql (.fn 1 (.pr (.var 0) (.fn 6 (.pr (.fn 8 (.pr (.var 8) (.int 3))) (.int 1))))) (.int 0))))
theorem fact47 (ρ : Env) : E.B ρ f47 = true := by
  unfold f47
  rw [sm_B_imp]
  simp only [sm_B_and]
  rintro ⟨p0, p1, p2, p3, p4, p5, p6, p7, p8, p9, p10, p11, p12, p13⟩
  have g0 := rows_get p3 (.var 8)
  clear p3
  simp only [sm_I_int, sm_I_fn6, sm_I_fn7, sm_I_fn8, sm_B_bool, sm_B_eql, sm_B_lss, sm_B_not, sm_B_and, sm_B_imp, sm_B_iff, sm_I_add_i64, sm_I_sub_i64, sm_I_mul_i64, sm_I_rem, sm_I_wr, sm_I_mx, sm_I_mn] at *
  try generalize E.I ρ (.var 2) = a0 at *
  try generalize E.I ρ (.var 1) = a1 at *
  try generalize E.I ρ (.var 3) = a2 at *
  try generalize E.I ρ (.var 8) = a3 at *
  try generalize E.I ρ (.fn 1 (.pr (.var 0) (.fn 6 (.pr (.fn 8 (.pr (.var 8) (.int 3))) (.int 2))))) = a4 at *
  try generalize E.I ρ (.fn 1 (.pr (.var 0) (.fn 6 (.pr (.fn 8 (.pr (.var 8) (.int 3))) (.int 0))))) = a5 at *
  try generalize E.I ρ (.var 9) = a6 at *
  try generalize E.I ρ (.fn 1 (.pr (.var 0) (.fn 6 (.pr (.fn 8 (.pr (.var 8) (.int 3))) (.int 1))))) = a7 at *
  omega
noncomputable def f48 : E := (.imp (.and (.not (.cmp .lss (.int 100000) (.fn 6 (.pr (.var 2) (.var 1))))) (.and (.cmp .eql (.var 3) (.fn 8 (.pr (.var 2) (.int 2)))) (.and (.not (.cmp .lss (.var 2) (.int 1))) (.and (.fn 100 (.pr (.var 0) (.pr (.var 1) (.pr (.var 1) (.int 1))))) (.and (.cmp .lss (.var 8) (.var 1)) (.and (.not (.cmp .eql (.fn 1 (.pr (.var 0) (.fn 6 (.pr (.fn 8 (.pr (.var 8) (.int 3))) (.int 2))))) (.int 1))) (.and (.cmp .eql (.fn 1 (.pr (.var 0) (.fn 6 (.pr (.fn 8 (.pr (.var 8) (.int 3))) (.int 2))))) (.int 2)) (.and (.not (.cmp .eql (.fn 1 (.pr (.var 0) (.fn 6 (.pr (.fn 8 (.pr (.var 8) (.int 3))) (.int 1))))) (.int 0))) (.and (.not (.cmp .eql (.fn 1 (.pr (.var 0) (.fn 6 (.pr (.fn 8 (.pr (.var 8) (.int 3))) (.int 0))))) (.int 0))) (.and (.cmp .eql (.var 9) (.fn 8 (.pr (.var 8) (.int 2)))) (.and (.not (.cmp .lss (.var 1) (.var 8))) (.and (.not (.cmp .lss (.var 8) (.int 0))) (.and (.not (.cmp .lss (.int 50002) (.var 1))) (.and (.not (.cmp .lss (.var 1) (.int 1))) (.and (.not (.cmp .lss (.int 50002) (.var 1))) (.not (.cmp .lss (.var 1) (.int 1)))))))))))))))))) (.cmp .eql (.fn 1 (.pr (.var 0) (.fn 6 (.pr (.fn 8 (.pr (.var 8) (.int 3))) (.int 0))))) (.int 1)))
theorem fact48 (ρ : Env) : E.B ρ f48 = true := by
  unfold f48
  rw [sm_B_imp]
  simp only [sm_B_and]
  rintro ⟨p0, p1, p2, p3, p4, p5, p6, p7, p8, p9, p10, p11, p12, p13, p14, p15⟩
  have g0 := rows_get p3 (.var 8)
  clear p3
  simp only [sm_I_int, sm_I_fn6, sm_I_fn7, sm_I_fn8, sm_B_bool, sm_B_eql, sm_B_lss, sm_B_not, sm_B_and, sm_B_imp, sm_B_iff, sm_I_add_i64, sm_I_sub_i64, sm_I_mul_i64, sm_I_rem, sm_I_wr, sm_I_mx, sm_I_mn] at *
  try generalize E.I ρ (.var 2) = a0 at *
  try generalize E.I ρ (.var 1) = a1 at *
  try generalize E.I ρ (.var 3) = a2 at *
  try generalize E.I ρ (.var 8) = a3 at *
  try generalize E.I ρ (.fn 1 (.pr (.var 0) (.fn 6 (.pr (.fn 8 (.pr (.var 8) (.int 3))) (.int 2))))) = a4 at *
  try generalize E.I ρ (.fn 1 (.pr (.var 0) (.fn 6 (.pr (.fn 8 (.pr (.var 8) (.int 3))) (.int 1))))) = a5 at *
  try generalize E.I ρ (.fn 1 (.pr (.var 0) (.fn 6 (.pr (.fn 8 (.pr (.var 8) (.int 3))) (.int 0))))) = a6 at *
  try generalize E.I ρ (.var 9) = a7 at *
  omega
noncomputable def f49 : E := (.imp (.and (.not (.cmp .lss (.int 100000) (.fn 6 (.pr (.var 2) (.var 1))))) (.and (.cmp .eql (.var 3) (.fn 8 (.pr (.var 2) (.int 2)))) (.and (.not (.cmp .lss (.var 2) (.int 1))) (.and (.fn 100 (.pr (.var 0) (.pr (.var 1) (.pr (.var 1) (.int 1))))) (.and (.cmp .lss (.var 8) (.var 1)) (.and (.not (.cmp .eql (.fn 1 (.pr (.var 0) (.fn 6 (.pr (.fn 8 (.pr (.var 8) (.int 3))) (.int 2))))) (.int 1))) (.and (.not (.cmp .eql (.fn 1 (.pr (.var 0) (.fn 6 (.pr (.fn 8 (.pr (.var 8) (.int 3))) (.int 2))))) (.int 2))) (.and (.not (.cmp .eql (.fn 1 (.pr (.var 0) (.fn 6 (.pr (.fn 8 (.pr (.var 8) (.int 3))) (.int 0))))) (.int 0))) (.and (.not (.cmp .eql (.fn 1 (.pr (.var 0) (.fn 6 (.pr (.fn 8 (.pr (.var 8) (.int 3))) (.int 1))))) (.int 0))) (.and (.cmp .eql (.var 9) (.fn 8 (.pr (.var 8) (.int 2)))) (.and (.not (.cmp .lss (.var 1) (.var 8))) (.and (.not (.cmp .lss (.var 8) (.int 0))) (.and (.not (.cmp .lss (.int 50002) (.var 1))) (.and (.not (.cmp .lss (.var 1) (.int 1))) (.and (.not (.cmp .lss (.int 50002) (.var 1))) (.not (.cmp .lss (.var 1) (.int 1)))))))))))))))))) (.cmp .eql (.fn 1 (.pr (.var 0) (.fn 6 (.pr (.fn 8 (.pr (.var 8) (.int 3))) (.int 1))))) (.int 1)))
theorem fact49 (ρ : Env) : E.B ρ f49 = true := by
  unfold f49
  rw [sm_B_imp]
  simp only [sm_B_and]
  rintro ⟨p0, p1, p2, p3, p4, p5, p6, p7, p8, p9, p10, p11, p12, p13, p14, p15⟩
  have g0 := rows_get p3 (.var 8)
  clear p3
  simp only [sm_I_int, sm_I_fn6, sm_I_fn7, sm_I_fn8, sm_B_bool, sm_B_eql, sm_B_lss, sm_B_not, sm_B_and, sm_B_imp, sm_B_iff, sm_I_add_i64, sm_I_sub_i64, sm_I_mul_i64, sm_I_rem, sm_I_wr, sm_I_mx, sm_I_mn] at *
  try generalize E.I ρ (.var 2) = a0 at *
  try generalize E.I ρ (.var 1) = a1 at *
  try generalize E.I ρ (.var 3) = a2 at *
  try generalize E.I ρ (.var 8) = a3 at *
  try generalize E.I ρ (.fn 1 (.pr (.var 0) (.fn 6 (.pr (.fn 8 (.pr (.var 8) (.int 3))) (.int 2))))) = a4 at *
  try generalize E.I ρ (.fn 1 (.pr (.var 0) (.fn 6 (.pr (.fn 8 (.pr (.var 8) (.int 3))) (.int 0))))) = a5 at *
  try generalize E.I ρ (.fn 1 (.pr (.var 0) (.fn 6 (.pr (.fn 8 (.pr (.var 8) (.int 3))) (.int 1))))) = a6 at *
  try generalize E.I ρ (.var 9) = a7 at *
  omega
noncomputable def f50 : E := (.imp (.and (.cmp .eql (.var 9) (.fn 8 (.pr (.var 8) (.int 2)))) (.and (.not (.cmp .lss (.var 1) (.var 8))) (.and (.not (.cmp .lss (.var 8) (.int 0))) (.and (.cmp .eql (.var 3) (.fn 8 (.pr (.var 2) (.int 2)))) (.and (.not (.cmp .lss (.int 100001) (.var 2))) (.and (.not (.cmp .lss (.var 2) (.int 1))) (.and (.not (.cmp .lss (.int 50002) (.var 1))) (.and (.not (.cmp .lss (.var 1) (.int 1))) (.and (.cmp .eql (.var 3) (.fn 8 (.pr (.var 2) (.int 2)))) (.and (.not (.cmp .lss (.int 100001) (.var 2))) (.and (.not (.cmp .lss (.var 2) (.int 1))) (.and (.not (.cmp .lss (.int 50002) (.var 1))) (.not (.cmp .lss (.var 1) (.int 1))))))))))))))) (.cmp .eql (.ar .add .i64 (.var 2) (.var 1)) (.fn 6 (.pr (.var 2) (.var 1)))))
theorem fact50 (ρ : Env) : E.B ρ f50 = true := by
  unfold f50
  rw [sm_B_imp]
  simp only [sm_B_and]
  rintro ⟨p0, p1, p2, p3, p4, p5, p6, p7, p8, p9, p10, p11, p12⟩
  simp only [sm_I_int, sm_I_fn6, sm_I_fn7, sm_I_fn8, sm_B_bool, sm_B_eql, sm_B_lss, sm_B_not, sm_B_and, sm_B_imp, sm_B_iff, sm_I_add_i64, sm_I_sub_i64, sm_I_mul_i64, sm_I_rem, sm_I_wr, sm_I_mx, sm_I_mn] at *
  try generalize E.I ρ (.var 9) = a0 at *
  try generalize E.I ρ (.var 8) = a1 at *
  try generalize E.I ρ (.var 1) = a2 at *
  try generalize E.I ρ (.var 3) = a3 at *
  try generalize E.I ρ (.var 2) = a4 at *
  obtain ⟨a5, ea5, qa5⟩ := cs_i64 (a4 + a2)
  try simp only [ea5] at *
  omega
noncomputable def f51 : E := (.imp (.and (.cmp .eql (.var 3) (.fn 8 (.pr (.var 2) (.int 2)))) (.and (.not (.cmp .lss (.var 2) (.int 1))) (.and (.fn 100 (.pr (.var 0) (.pr (.var 1) (.pr (.var 1) (.int 1))))) (.and (.cmp .lss (.var 4) (.var 1)) (.and (.not (.cmp .lss (.int 50002) (.var 1))) (.and (.not (.cmp .lss (.var 1) (.int 1))) (.and (.not (.cmp .lss (.var 1) (.var 4))) (.and (.not (.cmp .lss (.var 4) (.int 0))) (.and (.not (.cmp .lss (.int 50002) (.var 1))) (.not (.cmp .lss (.var 1) (.int 1)))))))))))) (.not (.cmp .lss (.int 3) (.fn 1 (.pr (.var 0) (.fn 6 (.pr (.fn 8 (.pr (.var 4) (.int 3))) (.int 2))))))))
theorem fact51 (ρ : Env) : E.B ρ f51 = true := by
  unfold f51
  rw [sm_B_imp]
  simp only [sm_B_and]
  rintro ⟨p0, p1, p2, p3, p4, p5, p6, p7, p8, p9⟩
  have g0 := rows_get p2 (.var 4)
  clear p2
  simp only [sm_I_int, sm_I_fn6, sm_I_fn7, sm_I_fn8, sm_B_bool, sm_B_eql, sm_B_lss, sm_B_not, sm_B_and, sm_B_imp, sm_B_iff, sm_I_add_i64, sm_I_sub_i64, sm_I_mul_i64, sm_I_rem, sm_I_wr, sm_I_mx, sm_I_mn] at *
  try generalize E.I ρ (.var 3) = a0 at *
  try generalize E.I ρ (.var 2) = a1 at *
  try generalize E.I ρ (.var 4) = a2 at *
  try generalize E.I ρ (.var 1) = a3 at *
  try generalize E.I ρ (.fn 1 (.pr (.var 0) (.fn 6 (.pr (.fn 8 (.pr (.var 4) (.int 3))) (.int 2))))) = a4 at *
  omega
noncomputable def f52 : E := (.imp (.and (.cmp .lss (.var 8) (.var 1)) (.and (.cmp .eql (.var 9) (.fn 8 (.pr (.var 8) (.int 2)))) (.and (.not (.cmp .lss (.var 1) (.var 8))) (.and (.not (.cmp .lss (.var 8) (.int 0))) (.and (.not (.cmp .lss (.int 50002) (.var 1))) (.and (.not (.cmp .lss (.var 1) (.int 1))) (.and (.not (.cmp .lss (.int 50002) (.var 1))) (.not (.cmp .lss (.var 1) (.int 1)))))))))) (.not (.cmp .lss (.var 1) (.ar .add .i64 (.var 8) (.int 1)))))
theorem fact52 (ρ : Env) : E.B ρ f52 = true := by
  unfold f52
  rw [sm_B_imp]
  simp only [sm_B_and]
  rintro ⟨p0, p1, p2, p3, p4, p5, p6, p7⟩
  simp only [sm_I_int, sm_I_fn6, sm_I_fn7, sm_I_fn8, sm_B_bool, sm_B_eql, sm_B_lss, sm_B_not, sm_B_and, sm_B_imp, sm_B_iff, sm_I_add_i64, sm_I_sub_i64, sm_I_mul_i64, sm_I_rem, sm_I_wr, sm_I_mx, sm_I_mn] at *
  try generalize E.I ρ (.var 8) = a0 at *
  try generalize E.I ρ (.var 1) = a1 at *
  try generalize E.I ρ (.var 9) = a2 at *
  obtain ⟨a3, ea3, qa3⟩ := cs_i64 (a0 + (1))
  try simp only [ea3] at *
  omega
noncomputable def f53 : E := (.imp (.and (.not (.cmp .lss (.int 100000) (.fn 6 (.pr (.var 2) (.var 1))))) (.and (.cmp .eql (.var 3) (.fn 8 (.pr (.var 2) (.int 2)))) (.and (.not (.cmp .lss (.var 2) (.int 1))) (.and (.fn 100 (.pr (.var 0) (.pr (.var 1) (.pr (.var 1) (.int 1))))) (.and (.cmp .lss (.var 8) (.var 1)) (.and (.cmp .eql (.fn 1 (.pr (.var 0) (.fn 6 (.pr (.fn 8 (.pr (.var 8) (.int 3))) (.int 2))))) (.int 1)) (.and (.cmp .eql (.var 9) (.fn 8 (.pr (.var 8) (.int 2)))) (.and (.not (.cmp .lss (.var 1) (.var 8))) (.and (.not (.cmp .lss (.var 8) (.int 0))) (.and (.not (.cmp .lss (.int 50002) (.var 1))) (.and (.not (.cmp .lss (.var 1) (.int 1))) (.and (.not (.cmp .lss (.int 50002) (.var 1))) (.not (.cmp .lss (.var 1) (.int 1))))))))))))))) (.not (.cmp .eql (.fn 1 (.pr (.var 0) (.fn 6 (.pr (.fn 8 (.pr (.var 8) (.int 3))) (.int 0))))) (.int 0))))
theorem fact53 (ρ : Env) : E.B ρ f53 = true := by
  unfold f53
  rw [sm_B_imp]
  simp only [sm_B_and]
  rintro ⟨p0, p1, p2, p3, p4, p5, p6, p7, p8, p9, p10, p11, p12⟩
  have g0 := rows_get p3 (.var 8)
  clear p3
  simp only [sm_I_int, sm_I_fn6, sm_I_fn7, sm_I_fn8, sm_B_bool, sm_B_eql, sm_B_lss, sm_B_not, sm_B_and, sm_B_imp, sm_B_iff, sm_I_add_i64, sm_I_sub_i64, sm_I_mul_i64, sm_I_rem, sm_I_wr, sm_I_mx, sm_I_mn] at *
  try generalize E.I ρ (.var 2) = a0 at *
  try generalize E.I ρ (.var 1) = a1 at *
  try generalize E.I ρ (.var 3) = a2 at *
  try generalize E.I ρ (.var 8) = a3 at *
  try generalize E.I ρ (.fn 1 (.pr (.var 0) (.fn 6 (.pr (.fn 8 (.pr (.var 8) (.int 3))) (.int 2))))) = a4 at *
  try generalize E.I ρ (.var 9) = a5 at *
  try generalize E.I ρ (.fn 1 (.pr (.var 0) (.fn 6 (.pr (.fn 8 (.pr (.var 8) (.int 3))) (.int 0))))) = a6 at *
  omega
noncomputable def f54 : E := (.imp (.and (.not (.cmp .lss (.int 100000) (.fn 6 (.pr (.var 2) (.var 1))))) (.and (.cmp .eql (.var 3) (.fn 8 (.pr (.var 2) (.int 2)))) (.and (.not (.cmp .lss (.var 2) (.int 1))) (.and (.fn 100 (.pr (.var 0) (.pr (.var 1) (.pr (.var 1) (.int 1))))) (.and (.cmp .lss (.var 8) (.var 1)) (.and (.not (.cmp .eql (.fn 1 (.pr (.var 0) (.fn 6 (.pr (.fn 8 (.pr (.var 8) (.int 3))) (.int 2))))) (.int 1))) (.and (.cmp .eql (.fn 1 (.pr (.var 0) (.fn 6 (.pr (.fn 8 (.pr (.var 8) (.int 3))) (.int 2))))) (.int 2)) (.and (.not (.cmp .eql (.fn 1 (.pr (.var 0) (.fn 6 (.pr (.fn 8 (.pr (.var 8) (.int 3))) (.int 1))))) (.int 0))) (.and (.cmp .eql (.var 9) (.fn 8 (.pr (.var 8) (.int 2)))) (.and (.not (.cmp .lss (.var 1) (.var 8))) (.and (.not (.cmp .lss (.var 8) (.int 0))) (.and (.not (.cmp .lss (.int 50002) (.var 1))) (.and (.not (.cmp .lss (.var 1) (.int 1))) (.and (.not (.cmp .lss (.int 50002) (.var 1))) (.not (.cmp .lss (.var 1) (.int 1))))))))))))))))) (.cmp .eql (.fn 1 (.pr (.var 0) (.fn 6 (.pr (.fn 8 (.pr (.var 8) (.int 3))) (.int 0))))) (.int 0)))
theorem fact54 (ρ : Env) : E.B ρ f54 = true := by
  unfold f54
  rw [sm_B_imp]
  simp only [sm_B_and]
  rintro ⟨p0, p1, p2, p3, p4, p5, p6, p7, p8, p9, p10, p11, p12, p13, p14⟩
  have g0 := rows_get p3 (.var 8)
  clear p3
  simp only [sm_I_int, sm_I_fn6, sm_I_fn7, sm_I_fn8, sm_B_bool, sm_B_eql, sm_B_lss, sm_B_not, sm_B_and, sm_B_imp, sm_B_iff, sm_I_add_i64, sm_I_sub_i64, sm_I_mul_i64, sm_I_rem, sm_I_wr, sm_I_mx, sm_I_mn] at *
  try generalize E.I ρ (.var 2) = a0 at *
  try generalize E.I ρ (.var 1) = a1 at *
  try generalize E.I ρ (.var 3) = a2 at *
  try generalize E.I ρ (.var 8) = a3 at *
  try generalize E.I ρ (.fn 1 (.pr (.var 0) (.fn 6 (.pr (.fn 8 (.pr (.var 8) (.int 3))) (.int 2))))) = a4 at *
  try generalize E.I ρ (.fn 1 (.pr (.var 0) (.fn 6 (.pr (.fn 8 (.pr (.var 8) (.int 3))) (.int 1))))) = a5 at *
  try generalize E.I ρ (.var 9) = a6 at *
  try generalize E.I ρ (.fn 1 (.pr (.var 0) (.fn 6 (.pr (.fn 8 (.pr (.var 8) (.int 3))) (.int 0))))) = a7 at *
  omega
noncomputable def f55 : E := (.imp (.and (.not (.cmp .lss (.int 100000) (.fn 6 (.pr (.var 2) (.var 1))))) (.and (.cmp .eql (.var 3) (.fn 8 (.pr (.var 2) (.int 2)))) (.and (.not (.cmp .lss (.var 2) (.int 1))) (.and (.fn 100 (.pr (.var 0) (.pr (.var 1) (.pr (.var 1) (.int 1))))) (.and (.cmp .lss (.var 8) (.var 1)) (.and (.not (.cmp .eql (.fn 1 (.pr (.var 0) (.fn 6 (.pr (.fn 8 (.pr (.var 8) (.int 3))) (.int 2))))) (.int 1))) (.and (.cmp .eql (.fn 1 (.pr (.var 0) (.fn 6 (.pr (.fn 8 (.pr (.var 8) (.int 3))) (.int 2))))) (.int 2)) (.and (.cmp .eql (.fn 1 (.pr (.var 0) (.fn 6 (.pr (.fn 8 (.pr (.var 8) (.int 3))) (.int 1))))) (.int 0)) (.and (.cmp .eql (.var 9) (.fn 8 (.pr (.var 8) (.int 2)))) (.and (.not (.cmp .lss (.var 1) (.var 8))) (.and (.not (.cmp .lss (.var 8) (.int 0))) (.and (.not (.cmp .lss (.int 50002) (.var 1))) (.and (.not (.cmp .lss (.var 1) (.int 1))) (.and (.not (.cmp .lss (.int 50002) (.var 1))) (.not (.cmp .lss (.var 1) (.int 1))))))))))))))))) (.cmp .eql (.fn 1 (.pr (.var 0) (.fn 6 (.pr (.fn 8 (.pr (.var 8) (.int 3))) (.int 0))))) (.int 0)))
theorem fact55 (ρ : Env) : E.B ρ f55 = true := by
  unfold f55
  rw [sm_B_imp]
  simp only [sm_B_and]
  rintro ⟨p0, p1, p2, p3, p4, p5, p6, p7, p8, p9, p10, p11, p12, p13, p14⟩
  have g0 := rows_get p3 (.var 8)
  clear p3
  simp only [sm_I_int, sm_I_fn6, sm_I_fn7, sm_I_fn8, sm_B_bool, sm_B_eql, sm_B_lss, sm_B_not, sm_B_and, sm_B_imp, sm_B_iff, sm_I_add_i64, sm_I_sub_i64, sm_I_mul_i64, sm_I_rem, sm_I_wr, sm_I_mx, sm_I_mn] at *
  try generalize E.I ρ (.var 2) = a0 at *
  try generalize E.I ρ (.var 1) = a1 at *
  try generalize E.I ρ (.var 3) = a2 at *
  try generalize E.I ρ (.var 8) = a3 at *
  try generalize E.I ρ (.fn 1 (.pr (.var 0) (.fn 6 (.pr (.fn 8 (.pr (.var 8) (.int 3))) (.int 2))))) = a4 at *
  try generalize E.I ρ (.fn 1 (.pr (.var 0) (.fn 6 (.pr (.fn 8 (.pr (.var 8) (.int 3))) (.int 1))))) = a5 at *
  try generalize E.I ρ (.var 9) = a6 at *
  try generalize E.I ρ (.fn 1 (.pr (.var 0) (.fn 6 (.pr (.fn 8 (.pr (.var 8) (.int 3))) (.int 0))))) = a7 at *
  omega
noncomputable def f56 : E := (.imp (.and (.not (.cmp .lss (.int 100000) (.fn 6 (.pr (.var 2) (.var 1))))) (.and (.cmp .eql (.var 3) (.fn 8 (.pr (.var 2) (.int 2)))) (.and (.not (.cmp .lss (.var 2) (.int 1))) (.and (.fn 100 (.pr (.var 0) (.pr (.var 1) (.pr (.var 1) (.int 1))))) (.and (.cmp .lss (.var 8) (.var 1)) (.and (.not (.cmp .eql (.fn 1 (.pr (.var 0) (.fn 6 (.pr (.fn 8 (.pr (.var 8) (.int 3))) (.int 2))))) (.int 1))) (.and (.cmp .eql (.fn 1 (.pr (.var 0) (.fn 6 (.pr (.fn 8 (.pr (.var 8) (.int 3))) (.int 2))))) (.int 2)) (.and (.cmp .eql (.fn 1 (.pr (.var 0) (.fn 6 (.pr (.fn 8 (.pr (.var 8) (.int 3))) (.int 1))))) (.int 0)) (.and (.cmp .eql (.var 9) (.fn 8 (.pr (.var 8) (.int 2)))) (.and (.not (.cmp .lss (.var 1) (.var 8))) (.and (.not (.cmp .lss (.var 8) (.int 0))) (.and (.not (.cmp .lss (.int 50002) (.var 1))) (.and (.not (.cmp .lss (.var 1) (.int 1))) (.and (.not (.cmp .lss (.int 50002) (.var 1))) (.not (.cmp .lss (.var 1) (.int 1))))))))))))))))) (.not (.cmp .eql (.fn 1 (.pr (.var 0) (.fn 6 (.pr (.fn 8 (.pr (.var 8) (.int 3))) (.int 0))))) (.int 0))))
theorem fact56 (ρ : Env) : E.B ρ f56 = true := by
  unfold f56
  rw [sm_B_imp]
  simp only [sm_B_and]
  rintro ⟨p0, p1, p2, p3, p4, p5, p6, p7, p8, p9, p10, p11, p12, p13, p14⟩
  have g0 := rows_get p3 (.var 8)
  clear p3
  simp only [sm_I_int, sm_I_fn6, sm_I_fn7, sm_I_fn8, sm_B_bool, sm_B_eql, sm_B_lss, sm_B_not, sm_B_and, sm_B_imp, sm_B_iff, sm_I_add_i64, sm_I_sub_i64, sm_I_mul_i64, sm_I_rem, sm_I_wr, sm_I_mx, sm_I_mn] at *
  try generalize E.I ρ (.var 2) = a0 at *
  try generalize E.I ρ (.var 1) = a1 at *
  try generalize E.I ρ (.var 3) = a2 at *
  try generalize E.I ρ (.var 8) = a3 at *
  try generalize E.I ρ (.fn 1 (.pr (.var 0) (.fn 6 (.pr (.fn 8 (.pr (.var 8) (.int 3))) (.int 2))))) = a4 at *
  try generalize E.I ρ (.fn 1 (.pr (.var 0) (.fn 6 (.pr (.fn 8 (.pr (.var 8) (.int 3))) (.int 1))))) = a5 at *
  try generalize E.I ρ (.var 9) = a6 at *
  try generalize E.I ρ (.fn 1 (.pr (.var 0) (.fn 6 (.pr (.fn 8 (.pr (.var 8) (.int 3))) (.int 0))))) = a7 at *
  omega
noncomputable def f57 : E := (.imp (.and (.not (.cmp .lss (.int 100000) (.fn 6 (.pr (.var 2) (.var 1))))) (.and (.cmp .eql (.var 3) (.fn 8 (.pr (.var 2) (.int 2)))) (.and (.not (.cmp .lss (.var 2) (.int 1))) (.and (.fn 100 (.pr (.var 0) (.pr (.var 1) (.pr (.var 1) (.int 1))))) (.and (.cmp .lss (.var 8) (.var 1)) (.and (.not (.cmp .eql (.fn 1 (.pr (.var 0) (.fn 6 (.pr (.fn 8 (.pr (.var 8) (.int 3))) (.int 2))))) (.int 1))) (.and (.not (.cmp .eql (.fn 1 (.pr (.var 0) (.fn 6 (.pr (.fn 8 (.pr (.var 8) (.int 3))) (.int 2))))) (.int 2))) (.and (.not (.cmp .eql (.fn 1 (.pr (.var 0) (.fn 6 (.pr (.fn 8 (.pr (.var 8) (.int 3))) (.int 0))))) (.int 0))) (.and (.cmp .eql (.var 9) (.fn 8 (.pr (.var 8) (.int 2)))) (.and (.not (.cmp .lss (.var 1) (.var 8))) (.and (.not (.cmp .lss (.var 8) (.int 0))) (.and (.not (.cmp .lss (.int 50002) (.var 1))) (.and (.not (.cmp .lss (.var 1) (.int 1))) (.and (.not (.cmp .lss (.int 50002) (.var 1))) (.not (.cmp .lss (.var 1) (.int 1))))))))))))))))) (.cmp .eql (.fn 1 (.pr (.var 0) (.fn 6 (.pr (.fn 8 (.pr (.var 8) (.int 3))) (.int 1))))) (.int 0)))
theorem fact57 (ρ : Env) : E.B ρ f57 = true := by
  unfold f57
  rw [sm_B_imp]
  simp only [sm_B_and]
  rintro ⟨p0, p1, p2, p3, p4, p5, p6, p7, p8, p9, p10, p11, p12, p13, p14⟩
  have g0 := rows_get p3 (.var 8)
  clear p3
  simp only [sm_I_int, sm_I_fn6, sm_I_fn7, sm_I_fn8, sm_B_bool, sm_B_eql, sm_B_lss, sm_B_not, sm_B_and, sm_B_imp, sm_B_iff, sm_I_add_i64, sm_I_sub_i64, sm_I_mul_i64, sm_I_rem, sm_I_wr, sm_I_mx, sm_I_mn] at *
  try generalize E.I ρ (.var 2) = a0 at *
  try generalize E.I ρ (.var 1) = a1 at *
  try generalize E.I ρ (.var 3) = a2 at *
  try generalize E.I ρ (.var 8) = a3 at *
  try generalize E.I ρ (.fn 1 (.pr (.var 0) (.fn 6 (.pr (.fn 8 (.pr (.var 8) (.int 3))) (.int 2))))) = a4 at *
  try generalize E.I ρ (.fn 1 (.pr (.var 0) (.fn 6 (.pr (.fn 8 (.pr (.var 8) (.int 3))) (.int 0))))) = a5 at *
  try generalize E.I ρ (.var 9) = a6 at *
  try generalize E.I ρ (.fn 1 (.pr (.var 0) (.fn 6 (.pr (.fn 8 (.pr (.var 8) (.int 3))) (.int 1))))) = a7 at *
  omega
noncomputable def f58 : E := (.imp (.and (.not (.cmp .lss (.int 100000) (.fn 6 (.pr (.var 2) (.var 1))))) (.and (.cmp .eql (.var 3) (.fn 8 (.pr (.var 2) (.int 2)))) (.and (.not (.cmp .lss (.var 2) (.int 1))) (.and (.fn 100 (.pr (.var 0) (.pr (.var 1) (.pr (.var 1) (.int 1))))) (.and (.cmp .lss (.var 8) (.var 1)) (.and (.not (.cmp .eql (.fn 1 (.pr (.var 0) (.fn 6 (.pr (.fn 8 (.pr (.var 8) (.int 3))) (.int 2))))) (.int 1))) (.and (.not (.cmp .eql (.fn 1 (.pr (.var 0) (.fn 6 (.pr (.fn 8 (.pr (.var 8) (.int 3))) (.int 2))))) (.int 2))) (.and (.not (.cmp .eql (.fn 1 (.pr (.var 0) (.fn 6 (.pr (.fn 8 (.pr (.var 8) (.int 3))) (.int 0))))) (.int 0))) (.and (.cmp .eql (.var 9) (.fn 8 (.pr (.var 8) (.int 2)))) (.and (.not (.cmp .lss (.var 1) (.var 8))) (.and (.not (.cmp .lss (.var 8) (.int 0))) (.and (.not (.cmp .lss (.int 50002) (.var 1))) (.and (.not (.cmp .lss (.var 1) (.int 1))) (.and (.not (.cmp .lss (.int 50002) (.var 1))) (.not (.cmp .lss (.var 1) (.int 1))))))))))))))))) (.not (.cmp .eql (.fn 1 (.pr (.var 0) (.fn 6 (.pr (.fn 8 (.pr (.var 8) (.int 3))) (.int 1))))) (.int 0))))
theorem fact58 (ρ : Env) : E.B ρ f58 = true := by
  unfold f58
  rw [sm_B_imp]
  simp only [sm_B_and]
  rintro ⟨p0, p1, p2, p3, p4, p5, p6, p7, p8, p9, p10, p11, p12, p13, p14⟩
  have g0 := rows_get p3 (.var 8)
  clear p3
  simp only [sm_I_int, sm_I_fn6, sm_I_fn7, sm_I_fn8, sm_B_bool, sm_B_eql, sm_B_lss, sm_B_not, sm_B_and, sm_B_imp, sm_B_iff, sm_I_add_i64, sm_I_sub_i64, sm_I_mul_i64, sm_I_rem, sm_I_wr, sm_I_mx, sm_I_mn] at *
  try generalize E.I ρ (.var 2) = a0 at *
  try generalize E.I ρ (.var 1) = a1 at *
  try generalize E.I ρ (.var 3) = a2 at *
  try generalize E.I ρ (.var 8) = a3 at *
  try generalize E.I ρ (.fn 1 (.pr (.var 0) (.fn 6 (.pr (.fn 8 (.pr (.var 8) (.int 3))) (.int 2))))) = a4 at *
  try generalize E.I ρ (.fn 1 (.pr (.var 0) (.fn 6 (.pr (.fn 8 (.pr (.var 8) (.int 3))) (.int 0))))) = a5 at *
  try generalize E.I ρ (.var 9) = a6 at *
  try generalize E.I ρ (.fn 1 (.pr (.var 0) (.fn 6 (.pr (.fn 8 (.pr (.var 8) (.int 3))) (.int 1))))) = a7 at *
  omega
noncomputable def f59 : E := (.imp (.and (.not (.cmp .lss (.int 100000) (.fn 6 (.pr (.var 2) (.var 1))))) (.and (.cmp .eql (.var 3) (.fn 8 (.pr (.var 2) (.int 2)))) (.and (.not (.cmp .lss (.var 2) (.int 1))) (.and (.fn 100 (.pr (.var 0) (.pr (.var 1) (.pr (.var 1) (.int 1))))) (.and (.cmp .lss (.var 8) (.var 1)) (.and (.not (.cmp .eql (.fn 1 (.pr (.var 0) (.fn 6 (.pr (.fn 8 (.pr (.var 8) (.int 3))) (.int 2))))) (.int 1))) (.and (.not (.cmp .eql (.fn 1 (.pr (.var 0) (.fn 6 (.pr (.fn 8 (.pr (.var 8) (.int 3))) (.int 2))))) (.int 2))) (.and (.cmp .eql (.fn 1 (.pr (.var 0) (.fn 6 (.pr (.fn 8 (.pr (.var 8) (.int 3))) (.int 0))))) (.int 0)) (.and (.cmp .eql (.var 9) (.fn 8 (.pr (.var 8) (.int 2)))) (.and (.not (.cmp .lss (.var 1) (.var 8))) (.and (.not (.cmp .lss (.var 8) (.int 0))) (.and (.not (.cmp .lss (.int 50002) (.var 1))) (.and (.not (.cmp .lss (.var 1) (.int 1))) (.and (.not (.cmp .lss (.int 50002) (.var 1))) (.not (.cmp .lss (.var 1) (.int 1))))))))))))))))) (.cmp .eql (.fn 1 (.pr (.var 0) (.fn 6 (.pr (.fn 8 (.pr (.var 8) (.int 3))) (.int 1))))) (.int 0)))
theorem fact59 (ρ : Env) : E.B ρ f59 = true := by
  unfold f59
  rw [sm_B_imp]
  simp only [sm_B_and]
  rintro ⟨p0, p1, p2, p3, p4, p5, p6, p7, p8, p9, p10, p11, p12, p13, p14⟩
  have g0 := rows_get p3 (.var 8)
  clear p3
  simp only [sm_I_int, sm_I_fn6, sm_I_fn7, sm_I_fn8, sm_B_bool, sm_B_eql, sm_B_lss, sm_B_not, sm_B_and, sm_B_imp, sm_B_iff, sm_I_add_i64, sm_I_sub_i64, sm_I_mul_i64, sm_I_rem, sm_I_wr, sm_I_mx, sm_I_mn] at *
  try generalize E.I ρ (.var 2) = a0 at *
  try generalize E.I ρ (.var 1) = a1 at *
  try generalize E.I ρ (.var 3) = a2 at *
  try generalize E.I ρ (.var 8) = a3 at *
  try generalize E.I ρ (.fn 1 (.pr (.var 0) (.fn 6 (.pr (.fn 8 (.pr (.var 8) (.int 3))) (.int 2))))) = a4 at *
  try generalize E.I ρ (.fn 1 (.pr (.var 0) (.fn 6 (.pr (.fn 8 (.pr (.var 8) (.int 3))) (.int 0))))) = a5 at *
  try generalize E.I ρ (.var 9) = a6 at *
  try generalize E.I ρ (.fn 1 (.pr (.var 0) (.fn 6 (.pr (.fn 8 (.pr (.var 8) (.int 3))) (.int 1))))) = a7 at *
  omega
noncomputable def f60 : E := (.imp (.and (.not (.cmp .lss (.int 100000) (.fn 6 (.pr (.var 2) (.var 1))))) (.and (.cmp .eql (.var 3) (.fn 8 (.pr (.var 2) (.int 2)))) (.and (.not (.cmp .lss (.var 2) (.int 1))) (.and (.fn 100 (.pr (.var 0) (.pr (.var 1) (.pr (.var 1) (.int 1))))) (.and (.cmp .lss (.var 8) (.var 1)) (.and (.cmp .eql (.fn 1 (.pr (.var 0) (.fn 6 (.pr (.fn 8 (.pr (.var 8) (.int 3))) (.int 2))))) (.int 1)) (.and (.cmp .eql (.fn 1 (.pr (.var 0) (.fn 6 (.pr (.fn 8 (.pr (.var 8) (.int 3))) (.int 0))))) (.int 1)) (.and (.not (.cmp .eql (.fn 1 (.pr (.var 0) (.fn 6 (.pr (.fn 8 (.pr (.var 8) (.int 3))) (.int 1))))) (.int 0))) (.and (.cmp .eql (.var 9) (.fn 8 (.pr (.var 8) (.int 2)))) (.and (.not (.cmp .lss (.var 1) (.var 8))) (.and (.not (.cmp .lss (.var 8) (.int 0))) (.and (.not (.cmp .lss (.int 50002) (.var 1))) (.and (.not (.cmp .lss (.var 1) (.int 1))) (.and (.not (.cmp .lss (.int 50002) (.var 1))) (.not (.cmp .lss (.var 1) (.int 1))))))))))))))))) (.cmp .eql (.fn 1 (.pr (.var 0) (.fn 6 (.pr (.fn 8 (.pr (.var 8) (.int 3))) (.int 1))))) (.int 1)))
theorem fact60 (ρ : Env) : E.B ρ f60 = true := by
  unfold f60
  rw [sm_B_imp]
  simp only [sm_B_and]
  rintro ⟨p0, p1, p2, p3, p4, p5, p6, p7, p8, p9, p10, p11, p12, p13, p14⟩
  have g0 := rows_get p3 (.var 8)
  clear p3
  simp only [sm_I_int, sm_I_fn6, sm_I_fn7, sm_I_fn8, sm_B_bool, sm_B_eql, sm_B_lss, sm_B_not, sm_B_and, sm_B_imp, sm_B_iff, sm_I_add_i64, sm_I_sub_i64, sm_I_mul_i64, sm_I_rem, sm_I_wr, sm_I_mx, sm_I_mn] at *
  try generalize E.I ρ (.var 2) = a0 at *
  try generalize E.I ρ (.var 1) = a1 at *
  try generalize E.I ρ (.var 3) = a2 at *
  try generalize E.I ρ (.var 8) = a3 at *
  try generalize E.I ρ (.fn 1 (.pr (.var 0) (.fn 6 (.pr (.fn 8 (.pr (.var 8) (.int 3))) (.int 2))))) = a4 at *
  try generalize E.I ρ (.fn 1 (.pr (.var 0) (.fn 6 (.pr (.fn 8 (.pr (.var 8) (.int 3))) (.int 0))))) = a5 at *
  try generalize E.I ρ (.fn 1 (.pr (.var 0) (.fn 6 (.pr (.fn 8 (.pr (.var 8) (.int 3))) (.int 1))))) = a6 at *
  try generalize E.I ρ (.var 9) = a7 at *
  omega
noncomputable def f61 : E := (.imp (.and (.not (.cmp .lss (.int 100000) (.fn 6 (.pr (.var 2) (.var 1))))) (.and (.cmp .eql (.var 3) (.fn 8 (.pr (.var 2) (.int 2)))) (.and (.not (.cmp .lss (.var 2) (.int 1))) (.and (.fn 100 (.pr (.var 0) (.pr (.var 1) (.pr (.var 1) (.int 1))))) (.and (.cmp .lss (.var 8) (.var 1)) (.and (.cmp .eql (.fn 1 (.pr (.var 0) (.fn 6 (.pr (.fn 8 (.pr (.var 8) (.int 3))) (.int 2))))) (.int 1)) (.and (.cmp .eql (.var 9) (.fn 8 (.pr (.var 8) (.int 2)))) (.and (.not (.cmp .lss (.var 1) (.var 8))) (.and (.not (.cmp .lss (.var 8) (.int 0))) (.and (.not (.cmp .lss (.int 50002) (.var 1))) (.and (.not (.cmp .lss (.var 1) (.int 1))) (.and (.not (.cmp .lss (.int 50002) (.var 1))) (.not (.cmp .lss (.var 1) (.int 1))))))))))))))) (.cmp .eql (.fn 1 (.pr (.var 0) (.fn 6 (.pr (.fn 8 (.pr (.var 8) (.int 3))) (.int 0))))) (.int 1)))
theorem fact61 (ρ : Env) : E.B ρ f61 = true := by
  unfold f61
  rw [sm_B_imp]
  simp only [sm_B_and]
  rintro ⟨p0, p1, p2, p3, p4, p5, p6, p7, p8, p9, p10, p11, p12⟩
  have g0 := rows_get p3 (.var 8)
  clear p3
  simp only [sm_I_int, sm_I_fn6, sm_I_fn7, sm_I_fn8, sm_B_bool, sm_B_eql, sm_B_lss, sm_B_not, sm_B_and, sm_B_imp, sm_B_iff, sm_I_add_i64, sm_I_sub_i64, sm_I_mul_i64, sm_I_rem, sm_I_wr, sm_I_mx, sm_I_mn] at *
  try generalize E.I ρ (.var 2) = a0 at *
  try generalize E.I ρ (.var 1) = a1 at *
  try generalize E.I ρ (.var 3) = a2 at *
  try generalize E.I ρ (.var 8) = a3 at *
  try generalize E.I ρ (.fn 1 (.pr (.var 0) (.fn 6 (.pr (.fn 8 (.pr (.var 8) (.int 3))) (.int 2))))) = a4 at *
  try generalize E.I ρ (.var 9) = a5 at *
  try generalize E.I ρ (.fn 1 (.pr (.var 0) (.fn 6 (.pr (.fn 8 (.pr (.var 8) (.int 3))) (.int 0))))) = a6 at *
  omega
noncomputable def f62 : E := (.imp (.and (.cmp .eql (.var 9) (.fn 8 (.pr (.var 8) (.int 2)))) (.and (.not (.cmp .lss (.var 1) (.var 8))) (.and (.not (.cmp .lss (.var 8) (.int 0))) (.and (.not (.cmp .lss (.int 50002) (.var 1))) (.and (.not (.cmp .lss (.var 1) (.int 1))) (.and (.not (.cmp .lss (.int 50002) (.var 1))) (.not (.cmp .lss (.var 1) (.int 1))))))))) (.cmp .eql (.ar .add .i64 (.var 9) (.int 2)) (.fn 8 (.pr (.ar .add .i64 (.var 8) (.int 1)) (.int 2)))))
theorem fact62 (ρ : Env) : E.B ρ f62 = true := by
  unfold f62
  rw [sm_B_imp]
  simp only [sm_B_and]
  rintro ⟨p0, p1, p2, p3, p4, p5, p6⟩
  simp only [sm_I_int, sm_I_fn6, sm_I_fn7, sm_I_fn8, sm_B_bool, sm_B_eql, sm_B_lss, sm_B_not, sm_B_and, sm_B_imp, sm_B_iff, sm_I_add_i64, sm_I_sub_i64, sm_I_mul_i64, sm_I_rem, sm_I_wr, sm_I_mx, sm_I_mn] at *
  try generalize E.I ρ (.var 9) = a0 at *
  try generalize E.I ρ (.var 8) = a1 at *
  try generalize E.I ρ (.var 1) = a2 at *
  obtain ⟨a3, ea3, qa3⟩ := cs_i64 (a0 + (2))
  try simp only [ea3] at *
  obtain ⟨a4, ea4, qa4⟩ := cs_i64 (a1 + (1))
  try simp only [ea4] at *
  omega
noncomputable def f63 : E := (.imp (.and (.not (.cmp .lss (.int 100000) (.fn 6 (.pr (.var 2) (.var 1))))) (.and (.cmp .eql (.var 3) (.fn 8 (.pr (.var 2) (.int 2)))) (.and (.not (.cmp .lss (.var 2) (.int 1))) (.and (.fn 100 (.pr (.var 0) (.pr (.var 1) (.pr (.var 1) (.int 1))))) (.and (.cmp .lss (.var 8) (.var 1)) (.and (.not (.cmp .eql (.fn 1 (.pr (.var 0) (.fn 6 (.pr (.fn 8 (.pr (.var 8) (.int 3))) (.int 2))))) (.int 1))) (.and (.cmp .eql (.fn 1 (.pr (.var 0) (.fn 6 (.pr (.fn 8 (.pr (.var 8) (.int 3))) (.int 2))))) (.int 2)) (.and (.cmp .eql (.var 9) (.fn 8 (.pr (.var 8) (.int 2)))) (.and (.not (.cmp .lss (.var 1) (.var 8))) (.and (.not (.cmp .lss (.var 8) (.int 0))) (.and (.not (.cmp .lss (.int 50002) (.var 1))) (.and (.not (.cmp .lss (.var 1) (.int 1))) (.and (.not (.cmp .lss (.int 50002) (.var 1))) (.not (.cmp .lss (.var 1) (.int 1)))))))))))))))) (.not (.cmp .eql (.fn 1 (.pr (.var 0) (.fn 6 (.pr (.fn 8 (.pr (.var 8) (.int 3))) (.int 1))))) (.int 0))))
theorem fact63 (ρ : Env) : E.B ρ f63 = true := by
  unfold f63
  rw [sm_B_imp]
  simp only [sm_B_and]
  rintro ⟨p0, p1, p2, p3, p4, p5, p6, p7, p8, p9, p10, p11, p12, p13⟩
  have g0 := rows_get p3 (.var 8)
  clear p3
  simp only [sm_I_int, sm_I_fn6, sm_I_fn7, sm_I_fn8, sm_B_bool, sm_B_eql, sm_B_lss, sm_B_not, sm_B_and, sm_B_imp, sm_B_iff, sm_I_add_i64, sm_I_sub_i64, sm_I_mul_i64, sm_I_rem, sm_I_wr, sm_I_mx, sm_I_mn] at *
  try generalize E.I ρ (.var 2) = a0 at *
  try generalize E.I ρ (.var 1) = a1 at *
  try generalize E.I ρ (.var 3) = a2 at *
  try generalize E.I ρ (.var 8) = a3 at *
  try generalize E.I ρ (.fn 1 (.pr (.var 0) (.fn 6 (.pr (.fn 8 (.pr (.var 8) (.int 3))) (.int 2))))) = a4 at *
  try generalize E.I ρ (.var 9) = a5 at *
  try generalize E.I ρ (.fn 1 (.pr (.var 0) (.fn 6 (.pr (.fn 8 (.pr (.var 8) (.int 3))) (.int 1))))) = a6 at *
  omega
noncomputable def f64 : E := (.imp (.and (.not (.cmp .lss (.int 100000) (.fn 6 (.pr (.var 2) (.var 1))))) (.and (.cmp .eql (.var 3) (.fn 8 (.pr (.var 2) (.int 2)))) (.and (.not (.cmp .lss (.var 2) (.int 1))) (.and (.fn 100 (.pr (.var 0) (.pr (.var 1) (.pr (.var 1) (.int 1))))) (.and (.cmp .lss (.var 8) (.var 1)) (.and (.not (.cmp .eql (.fn 1 (.pr (.var 0) (.fn 6 (.pr (.fn 8 (.pr (.var 8) (.int 3))) (.int 2))))) (.int 1))) (.and (.not (.cmp .eql (.fn 1 (.pr (.var 0) (.fn 6 (.pr (.fn 8 (.pr (.var 8) (.int 3))) (.int 2))))) (.int 2))) (.and (.cmp .eql (.var 9) (.fn 8 (.pr (.var 8) (.int 2)))) (.and (.not (.cmp .lss (.var 1) (.var 8))) (.and (.not (.cmp .lss (.var 8) (.int 0))) (.and (.not (.cmp .lss (.int 50002) (.var 1))) (.and (.not (.cmp .lss (.var 1) (.int 1))) (.and (.not (.cmp .lss (.int 50002) (.var 1))) (.not (.cmp .lss (.var 1) (.int 1)))))))))))))))) (.cmp .eql (.fn 1 (.pr (.var 0) (.fn 6 (.pr (.fn 8 (.pr (.var 8) (.int 3))) (.int 0))))) (.int 0)))
theorem fact64 (ρ : Env) : E.B ρ f64 = true := by
  unfold f64
  rw [sm_B_imp]
  simp only [sm_B_and]
  rintro ⟨p0, p1, p2, p3, p4, p5, p6, p7, p8, p9, p10, p11, p12, p13⟩
  have g0 := rows_get p3 (.var 8)
  clear p3
  simp only [sm_I_int, sm_I_fn6, sm_I_fn7, sm_I_fn8, sm_B_bool, sm_B_eql, sm_B_lss, sm_B_not, sm_B_and, sm_B_imp, sm_B_iff, sm_I_add_i64, sm_I_sub_i64, sm_I_mul_i64, sm_I_rem, sm_I_wr, sm_I_mx, sm_I_mn] at *
  try generalize E.I ρ (.var 2) = a0 at *
  try generalize E.I ρ (.var 1) = a1 at *
  try generalize E.I ρ (.var 3) = a2 at *
  try generalize E.I ρ (.var 8) = a3 at *
  try generalize E.I ρ (.fn 1 (.pr (.var 0) (.fn 6 (.pr (.fn 8 (.pr (.var 8) (.int 3))) (.int 2))))) = a4 at *
  try generalize E.I ρ (.var 9) = a5 at *
  try generalize E.I ρ (.fn 1 (.pr (.var 0) (.fn 6 (.pr (.fn 8 (.pr (.var 8) (.int 3))) (.int 0))))) = a6 at *
  omega
noncomputable def f65 : E := (.imp (.and (.not (.cmp .lss (.int 100000) (.fn 6 (.pr (.var 2) (.var 1))))) (.and (.cmp .eql (.var 3) (.fn 8 (.pr (.var 2) (.int 2)))) (.and (.not (.cmp .lss (.var 2) (.int 1))) (.and (.fn 100 (.pr (.var 0) (.pr (.var 1) (.pr (.var 1) (.int 1))))) (.and (.cmp .lss (.var 8) (.var 1)) (.and (.not (.cmp .eql (.fn 1 (.pr (.var 0) (.fn 6 (.pr (.fn 8 (.pr (.var 8) (.int 3))) (.int 2))))) (.int 1))) (.and (.not (.cmp .eql (.fn 1 (.pr (.var 0) (.fn 6 (.pr (.fn 8 (.pr (.var 8) (.int 3))) (.int 2))))) (.int 2))) (.and (.cmp .eql (.var 9) (.fn 8 (.pr (.var 8) (.int 2)))) (.and (.not (.cmp .lss (.var 1) (.var 8))) (.and (.not (.cmp .lss (.var 8) (.int 0))) (.and (.not (.cmp .lss (.int 50002) (.var 1))) (.and (.not (.cmp .lss (.var 1) (.int 1))) (.and (.not (.cmp .lss (.int 50002) (.var 1))) (.not (.cmp .lss (.var 1) (.int 1)))))))))))))))) (.not (.cmp .eql (.fn 1 (.pr (.var 0) (.fn 6 (.pr (.fn 8 (.pr (.var 8) (.int 3))) (.int 0))))) (.int 0))))
theorem fact65 (ρ : Env) : E.B ρ f65 = true := by
  unfold f65
  rw [sm_B_imp]
  simp only [sm_B_and]
  rintro ⟨p0, p1, p2, p3, p4, p5, p6, p7, p8, p9, p10, p11, p12, p13⟩
  have g0 := rows_get p3 (.var 8)
  clear p3
  simp only [sm_I_int, sm_I_fn6, sm_I_fn7, sm_I_fn8, sm_B_bool, sm_B_eql, sm_B_lss, sm_B_not, sm_B_and, sm_B_imp, sm_B_iff, sm_I_add_i64, sm_I_sub_i64, sm_I_mul_i64, sm_I_rem, sm_I_wr, sm_I_mx, sm_I_mn] at *
  try generalize E.I ρ (.var 2) = a0 at *
  try generalize E.I ρ (.var 1) = a1 at *
  try generalize E.I ρ (.var 3) = a2 at *
  try generalize E.I ρ (.var 8) = a3 at *
  try generalize E.I ρ (.fn 1 (.pr (.var 0) (.fn 6 (.pr (.fn 8 (.pr (.var 8) (.int 3))) (.int 2))))) = a4 at *
  try generalize E.I ρ (.var 9) = a5 at *
  try generalize E.I ρ (.fn 1 (.pr (.var 0) (.fn 6 (.pr (.fn 8 (.pr (.var 8) (.int 3))) (.int 0))))) = a6 at *
  omega
noncomputable def f66 : E := (.imp (.and (.not (.cmp .lss (.var 8) (.var 1))) (.and (.cmp .eql (.var 9) (.fn 8 (.pr (.var 8) (.int 2)))) (.and (.not (.cmp .lss (.var 1) (.var 8))) (.and (.not (.cmp .lss (.var 8) (.int 0))) (.and (.not (.cmp .lss (.int 50002) (.var 1))) (.and (.not (.cmp .lss (.var 1) (.int 1))) (.and (.not (.cmp .lss (.int 50002) (.var 1))) (.not (.cmp .lss (.var 1) (.int 1)))))))))) (.cmp .eql (.var 9) (.fn 8 (.pr (.var 1) (.int 2)))))
theorem fact66 (ρ : Env) : E.B ρ f66 = true := by
  unfold f66
  rw [sm_B_imp]
  simp only [sm_B_and]
  rintro ⟨p0, p1, p2, p3, p4, p5, p6, p7⟩
  simp only [sm_I_int, sm_I_fn6, sm_I_fn7, sm_I_fn8, sm_B_bool, sm_B_eql, sm_B_lss, sm_B_not, sm_B_and, sm_B_imp, sm_B_iff, sm_I_add_i64, sm_I_sub_i64, sm_I_mul_i64, sm_I_rem, sm_I_wr, sm_I_mx, sm_I_mn] at *
  try generalize E.I ρ (.var 8) = a0 at *
  try generalize E.I ρ (.var 1) = a1 at *
  try generalize E.I ρ (.var 9) = a2 at *
  omega
noncomputable def f67 : E := (.imp (.and (.not (.cmp .lss (.int 100000) (.fn 6 (.pr (.var 2) (.var 1))))) (.and (.cmp .eql (.var 3) (.fn 8 (.pr (.var 2) (.int 2)))) (.and (.not (.cmp .lss (.var 2) (.int 1))) (.and (.fn 100 (.pr (.var 0) (.pr (.var 1) (.pr (.var 1) (.int 1))))) (.and (.cmp .lss (.var 8) (.var 1)) (.and (.cmp .eql (.fn 1 (.pr (.var 0) (.fn 6 (.pr (.fn 8 (.pr (.var 8) (.int 3))) (.int 2))))) (.int 1)) (.and (.not (.cmp .eql (.fn 1 (.pr (.var 0) (.fn 6 (.pr (.fn 8 (.pr (.var 8) (.int 3))) (.int 1))))) (.int 0))) (.and (.cmp .eql (.var 9) (.fn 8 (.pr (.var 8) (.int 2)))) (.and (.not (.cmp .lss (.var 1) (.var 8))) (.and (.not (.cmp .lss (.var 8) (.int 0))) (.and (.not (.cmp .lss (.int 50002) (.var 1))) (.and (.not (.cmp .lss (.var 1) (.int 1))) (.and (.not (.cmp .lss (.int 50002) (.var 1))) (.not (.cmp .lss (.var 1) (.int 1)))))))))))))))) (.cmp .eql (.fn 1 (.pr (.var 0) (.fn 6 (.pr (.fn 8 (.pr (.var 8) (.int 3))) (.int 1))))) (.int 1)))
theorem fact67 (ρ : Env) : E.B ρ f67 = true := by
  unfold f67
  rw [sm_B_imp]
  simp only [sm_B_and]
  rintro ⟨p0, p1, p2, p3, p4, p5, p6, p7, p8, p9, p10, p11, p12, p13⟩
  have g0 := rows_get p3 (.var 8)
  clear p3
  simp only [sm_I_int, sm_I_fn6, sm_I_fn7, sm_I_fn8, sm_B_bool, sm_B_eql, sm_B_lss, sm_B_not, sm_B_and, sm_B_imp, sm_B_iff, sm_I_add_i64, sm_I_sub_i64, sm_I_mul_i64, sm_I_rem, sm_I_wr, sm_I_mx, sm_I_mn] at *
  try generalize E.I ρ (.var 2) = a0 at *
  try generalize E.I ρ (.var 1) = a1 at *
  try generalize E.I ρ (.var 3) = a2 at *
  try generalize E.I ρ (.var 8) = a3 at *
  try generalize E.I ρ (.fn 1 (.pr (.var 0) (.fn 6 (.pr (.fn 8 (.pr (.var 8) (.int 3))) (.int 2))))) = a4 at *
  try generalize E.I ρ (.fn 1 (.pr (.var 0) (.fn 6 (.pr (.fn 8 (.pr (.var 8) (.int 3))) (.int 1))))) = a5 at *
  try generalize E.I ρ (.var 9) = a6 at *
  omega
noncomputable def f68 : E := (.imp (.and (.not (.cmp .lss (.int 100000) (.fn 6 (.pr (.var 2) (.var 1))))) (.and (.cmp .eql (.var 3) (.fn 8 (.pr (.var 2) (.int 2)))) (.and (.not (.cmp .lss (.var 2) (.int 1))) (.and (.fn 100 (.pr (.var 0) (.pr (.var 1) (.pr (.var 1) (.int 1))))) (.and (.cmp .lss (.var 8) (.var 1)) (.and (.not (.cmp .eql (.fn 1 (.pr (.var 0) (.fn 6 (.pr (.fn 8 (.pr (.var 8) (.int 3))) (.int 2))))) (.int 1))) (.and (.cmp .eql (.fn 1 (.pr (.var 0) (.fn 6 (.pr (.fn 8 (.pr (.var 8) (.int 3))) (.int 2))))) (.int 2)) (.and (.cmp .eql (.fn 1 (.pr (.var 0) (.fn 6 (.pr (.fn 8 (.pr (.var 8) (.int 3))) (.int 1))))) (.int 1)) (.and (.not (.cmp .eql (.fn 1 (.pr (.var 0) (.fn 6 (.pr (.fn 8 (.pr (.var 8) (.int 3))) (.int 0))))) (.int 0))) (.and (.cmp .eql (.var 9) (.fn 8 (.pr (.var 8) (.int 2)))) (.and (.not (.cmp .lss (.var 1) (.var 8))) (.and (.not (.cmp .lss (.var 8) (.int 0))) (.and (.not (.cmp .lss (.int 50002) (.var 1))) (.and (.not (.cmp .lss (.var 1) (.int 1))) (.and (.not (.cmp .lss (.int 50002) (.var 1))) (.not (.cmp .lss (.var 1) (.int 1)))))))))))))))))) (.cmp .eql (.fn 1 (.pr (.var 0) (.fn 6 (.pr (.fn 8 (.pr (.var 8) (.int 3))) (.int 0))))) (.int 1)))
theorem fact68 (ρ : Env) : E.B ρ f68 = true := by
  unfold f68
  rw [sm_B_imp]
  simp only [sm_B_and]
  rintro ⟨p0, p1, p2, p3, p4, p5, p6, p7, p8, p9, p10, p11, p12, p13, p14, p15⟩
  have g0 := rows_get p3 (.var 8)
  clear p3
  simp only [sm_I_int, sm_I_fn6, sm_I_fn7, sm_I_fn8, sm_B_bool, sm_B_eql, sm_B_lss, sm_B_not, sm_B_and, sm_B_imp, sm_B_iff, sm_I_add_i64, sm_I_sub_i64, sm_I_mul_i64, sm_I_rem, sm_I_wr, sm_I_mx, sm_I_mn] at *
  try generalize E.I ρ (.var 2) = a0 at *
  try generalize E.I ρ (.var 1) = a1 at *
  try generalize E.I ρ (.var 3) = a2 at *
  try generalize E.I ρ (.var 8) = a3 at *
  try generalize E.I ρ (.fn 1 (.pr (.var 0) (.fn 6 (.pr (.fn 8 (.pr (.var 8) (.int 3))) (.int 2))))) = a4 at *
  try generalize E.I ρ (.fn 1 (.pr (.var 0) (.fn 6 (.pr (.fn 8 (.pr (.var 8) (.int 3))) (.int 1))))) = a5 at *
  try generalize E.I ρ (.fn 1 (.pr (.var 0) (.fn 6 (.pr (.fn 8 (.pr (.var 8) (.int 3))) (.int 0))))) = a6 at *
  try generalize E.I ρ (.var 9) = a7 at *
  omega
noncomputable def f69 : E := (.imp (.and (.not (.cmp .lss (.int 100000) (.fn 6 (.pr (.var 2) (.var 1))))) (.and (.cmp .eql (.var 3) (.fn 8 (.pr (.var 2) (.int 2)))) (.and (.not (.cmp .lss (.var 2) (.int 1))) (.and (.fn 100 (.pr (.var 0) (.pr (.var 1) (.pr (.var 1) (.int 1))))) (.and (.cmp .lss (.var 8) (.var 1)) (.and (.not (.cmp .eql (.fn 1 (.pr (.var 0) (.fn 6 (.pr (.fn 8 (.pr (.var 8) (.int 3))) (.int 2))))) (.int 1))) (.and (.cmp .eql (.fn 1 (.pr (.var 0) (.fn 6 (.pr (.fn 8 (.pr (.var 8) (.int 3))) (.int 2))))) (.int 2)) (.and (.cmp .eql (.var 9) (.fn 8 (.pr (.var 8) (.int 2)))) (.and (.not (.cmp .lss (.var 1) (.var 8))) (.and (.not (.cmp .lss (.var 8) (.int 0))) (.and (.not (.cmp .lss (.int 50002) (.var 1))) (.and (.not (.cmp .lss (.var 1) (.int 1))) (.and (.not (.cmp .lss (.int 50002) (.var 1))) (.not (.cmp .lss (.var 1) (.int 1)))))))))))))))) (.cmp .eql (.fn 1 (.pr (.var 0) (.fn 6 (.pr (.fn 8 (.pr (.var 8) (.int 3))) (.int 1))))) (.int 1)))
theorem fact69 (ρ : Env) : E.B ρ f69 = true := by
  unfold f69
  rw [sm_B_imp]
  simp only [sm_B_and]
  rintro ⟨p0, p1, p2, p3, p4, p5, p6, p7, p8, p9, p10, p11, p12, p13⟩
  have g0 := rows_get p3 (.var 8)
  clear p3
  simp only [sm_I_int, sm_I_fn6, sm_I_fn7, sm_I_fn8, sm_B_bool, sm_B_eql, sm_B_lss, sm_B_not, sm_B_and, sm_B_imp, sm_B_iff, sm_I_add_i64, sm_I_sub_i64, sm_I_mul_i64, sm_I_rem, sm_I_wr, sm_I_mx, sm_I_mn] at *
  try generalize E.I ρ (.var 2) = a0 at *
  try generalize E.I ρ (.var 1) = a1 at *
  try generalize E.I ρ (.var 3) = a2 at *
  try generalize E.I ρ (.var 8) = a3 at *
  try generalize E.I ρ (.fn 1 (.pr (.var 0) (.fn 6 (.pr (.fn 8 (.pr (.var 8) (.int 3))) (.int 2))))) = a4 at *
  try generalize E.I ρ (.var 9) = a5 at *
  try generalize E.I ρ (.fn 1 (.pr (.var 0) (.fn 6 (.pr (.fn 8 (.pr (.var 8) (.int 3))) (.int 1))))) = a6 at *
  omega
noncomputable def f70 : E := (.imp (.and (.not (.cmp .lss (.int 100000) (.fn 6 (.pr (.var 2) (.var 1))))) (.and (.cmp .eql (.var 3) (.fn 8 (.pr (.var 2) (.int 2)))) (.and (.not (.cmp .lss (.var 2) (.int 1))) (.and (.fn 100 (.pr (.var 0) (.pr (.var 1) (.pr (.var 1) (.int 1))))) (.and (.cmp .lss (.var 8) (.var 1)) (.and (.not (.cmp .eql (.fn 1 (.pr (.var 0) (.fn 6 (.pr (.fn 8 (.pr (.var 8) (.int 3))) (.int 2))))) (.int 1))) (.and (.not (.cmp .eql (.fn 1 (.pr (.var 0) (.fn 6 (.pr (.fn 8 (.pr (.var 8) (.int 3))) (.int 2))))) (.int 2))) (.and (.not (.cmp .eql (.fn 1 (.pr (.var 0) (.fn 6 (.pr (.fn 8 (.pr (.var 8) (.int 3))) (.int 1))))) (.int 0))) (.and (.cmp .eql (.var 9) (.fn 8 (.pr (.var 8) (.int 2)))) (.and (.not (.cmp .lss (.var 1) (.var 8))) (.and (.not (.cmp .lss (.var 8) (.int 0))) (.and (.not (.cmp .lss (.int 50002) (.var 1))) (.and (.not (.cmp .lss (.var 1) (.int 1))) (.and (.not (.cmp .lss (.int 50002) (.var 1))) (.not (.cmp .lss (.var 1) (.int 1))))))))))))))))) (.cmp .eql (.fn 1 (.pr (.var 0) (.fn 6 (.pr (.fn 8 (.pr (.var 8) (.int 3))) (.int 1))))) (.int 1)))
theorem fact70 (ρ : Env) : E.B ρ f70 = true := by
  unfold f70
  rw [sm_B_imp]
  simp only [sm_B_and]
  rintro ⟨p0, p1, p2, p3, p4, p5, p6, p7, p8, p9, p10, p11, p12, p13, p14⟩
  have g0 := rows_get p3 (.var 8)
  clear p3
  simp only [sm_I_int, sm_I_fn6, sm_I_fn7, sm_I_fn8, sm_B_bool, sm_B_eql, sm_B_lss, sm_B_not, sm_B_and, sm_B_imp, sm_B_iff, sm_I_add_i64, sm_I_sub_i64, sm_I_mul_i64, sm_I_rem, sm_I_wr, sm_I_mx, sm_I_mn] at *
  try generalize E.I ρ (.var 2) = a0 at *
  try generalize E.I ρ (.var 1) = a1 at *
  try generalize E.I ρ (.var 3) = a2 at *
  try generalize E.I ρ (.var 8) = a3 at *
  try generalize E.I ρ (.fn 1 (.pr (.var 0) (.fn 6 (.pr (.fn 8 (.pr (.var 8) (.int 3))) (.int 2))))) = a4 at *
  try generalize E.I ρ (.fn 1 (.pr (.var 0) (.fn 6 (.pr (.fn 8 (.pr (.var 8) (.int 3))) (.int 1))))) = a5 at *
  try generalize E.I ρ (.var 9) = a6 at *
  omega
noncomputable def f71 : E := (.imp (.and (.not (.cmp .lss (.int 100000) (.fn 6 (.pr (.var 2) (.var 1))))) (.and (.cmp .eql (.var 3) (.fn 8 (.pr (.var 2) (.int 2)))) (.and (.not (.cmp .lss (.var 2) (.int 1))) (.and (.fn 100 (.pr (.var 0) (.pr (.var 1) (.pr (.var 1) (.int 1))))) (.and (.cmp .lss (.var 8) (.var 1)) (.and (.cmp .eql (.fn 1 (.pr (.var 0) (.fn 6 (.pr (.fn 8 (.pr (.var 8) (.int 3))) (.int 2))))) (.int 1)) (.and (.cmp .eql (.var 9) (.fn 8 (.pr (.var 8) (.int 2)))) (.and (.not (.cmp .lss (.var 1) (.var 8))) (.and (.not (.cmp .lss (.var 8) (.int 0))) (.and (.not (.cmp .lss (.int 50002) (.var 1))) (.and (.not (.cmp .lss (.var 1) (.int 1))) (.and (.not (.cmp .lss (.int 50002) (.var 1))) (.not (.cmp .lss (.var 1) (.int 1))))))))))))))) (.cmp .eql (.fn 1 (.pr (.var 0) (.fn 6 (.pr (.fn 8 (.pr (.var 8) (.int 3))) (.int 1))))) (.int 0)))
theorem fact71 (ρ : Env) : E.B ρ f71 = true := by
  unfold f71
  rw [sm_B_imp]
  simp only [sm_B_and]
  rintro ⟨p0, p1, p2, p3, p4, p5, p6, p7, p8, p9, p10, p11, p12⟩
  have g0 := rows_get p3 (.var 8)
  clear p3
  simp only [sm_I_int, sm_I_fn6, sm_I_fn7, sm_I_fn8, sm_B_bool, sm_B_eql, sm_B_lss, sm_B_not, sm_B_and, sm_B_imp, sm_B_iff, sm_I_add_i64, sm_I_sub_i64, sm_I_mul_i64, sm_I_rem, sm_I_wr, sm_I_mx, sm_I_mn] at *
  try generalize E.I ρ (.var 2) = a0 at *
  try generalize E.I ρ (.var 1) = a1 at *
  try generalize E.I ρ (.var 3) = a2 at *
  try generalize E.I ρ (.var 8) = a3 at *
  try generalize E.I ρ (.fn 1 (.pr (.var 0) (.fn 6 (.pr (.fn 8 (.pr (.var 8) (.int 3))) (.int 2))))) = a4 at *
  try generalize E.I ρ (.var 9) = a5 at *
  try generalize E.I ρ (.fn 1 (.pr (.var 0) (.fn 6 (.pr (.fn 8 (.pr (.var 8) (.int 3))) (.int 1))))) = a6 at *
  omega
noncomputable def f72 : E := (.imp (.and (.cmp .eql (.var 9) (.fn 8 (.pr (.var 8) (.int 2)))) (.and (.not (.cmp .lss (.var 1) (.var 8))) (.and (.not (.cmp .lss (.var 8) (.int 0))) (.and (.not (.cmp .lss (.int 50002) (.var 1))) (.and (.not (.cmp .lss (.var 1) (.int 1))) (.and (.not (.cmp .lss (.int 50002) (.var 1))) (.not (.cmp .lss (.var 1) (.int 1))))))))) (.cmp .lss (.fn 7 (.pr (.var 1) (.ar .add .i64 (.var 8) (.int 1)))) (.fn 7 (.pr (.var 1) (.var 8)))))
theorem fact72 (ρ : Env) : E.B ρ f72 = true := by
  unfold f72
  rw [sm_B_imp]
  simp only [sm_B_and]
  rintro ⟨p0, p1, p2, p3, p4, p5, p6⟩
  simp only [sm_I_int, sm_I_fn6, sm_I_fn7, sm_I_fn8, sm_B_bool, sm_B_eql, sm_B_lss, sm_B_not, sm_B_and, sm_B_imp, sm_B_iff, sm_I_add_i64, sm_I_sub_i64, sm_I_mul_i64, sm_I_rem, sm_I_wr, sm_I_mx, sm_I_mn] at *
  try generalize E.I ρ (.var 9) = a0 at *
  try generalize E.I ρ (.var 8) = a1 at *
  try generalize E.I ρ (.var 1) = a2 at *
  obtain ⟨a3, ea3, qa3⟩ := cs_i64 (a1 + (1))
  try simp only [ea3] at *
  omega
noncomputable def f73 : E := (.imp (.and (.not (.cmp .lss (.int 100000) (.fn 6 (.pr (.var 2) (.var 1))))) (.and (.cmp .eql (.var 3) (.fn 8 (.pr (.var 2) (.int 2)))) (.and (.not (.cmp .lss (.var 2) (.int 1))) (.and (.fn 100 (.pr (.var 0) (.pr (.var 1) (.pr (.var 1) (.int 1))))) (.and (.cmp .lss (.var 8) (.var 1)) (.and (.not (.cmp .eql (.fn 1 (.pr (.var 0) (.fn 6 (.pr (.fn 8 (.pr (.var 8) (.int 3))) (.int 2))))) (.int 1))) (.and (.cmp .eql (.fn 1 (.pr (.var 0) (.fn 6 (.pr (.fn 8 (.pr (.var 8) (.int 3))) (.int 2))))) (.int 2)) (.and (.not (.cmp .eql (.fn 1 (.pr (.var 0) (.fn 6 (.pr (.fn 8 (.pr (.var 8) (.int 3))) (.int 0))))) (.int 0))) (.and (.cmp .eql (.var 9) (.fn 8 (.pr (.var 8) (.int 2)))) (.and (.not (.cmp .lss (.var 1) (.var 8))) (.and (.not (.cmp .lss (.var 8) (.int 0))) (.and (.not (.cmp .lss (.int 50002) (.var 1))) (.and (.not (.cmp .lss (.var 1) (.int 1))) (.and (.not (.cmp .lss (.int 50002) (.var 1))) (.not (.cmp .lss (.var 1) (.int 1))))))))))))))))) (.cmp .eql (.fn 1 (.pr (.var 0) (.fn 6 (.pr (.fn 8 (.pr (.var 8) (.int 3))) (.int 0))))) (.int 1)))
theorem fact73 (ρ : Env) : E.B ρ f73 = true := by
  unfold f73
  rw [sm_B_imp]
  simp only [sm_B_and]
  rintro ⟨p0, p1, p2, p3, p4, p5, p6, p7, p8, p9, p10, p11, p12, p13, p14⟩
  have g0 := rows_get p3 (.var 8)
  clear p3
  simp only [sm_I_int, sm_I_fn6, sm_I_fn7, sm_I_fn8, sm_B_bool, sm_B_eql, sm_B_lss, sm_B_not, sm_B_and, sm_B_imp, sm_B_iff, sm_I_add_i64, sm_I_sub_i64, sm_I_mul_i64, sm_I_rem, sm_I_wr, sm_I_mx, sm_I_mn] at *
  try generalize E.I ρ (.var 2) = a0 at *
  try generalize E.I ρ (.var 1) = a1 at *
  try generalize E.I ρ (.var 3) = a2 at *
  try generalize E.I ρ (.var 8) = a3 at *
  try generalize E.I ρ (.fn 1 (.pr (.var 0) (.fn 6 (.pr (.fn 8 (.pr (.var 8) (.int 3))) (.int 2))))) = a4 at *
  try generalize E.I ρ (.fn 1 (.pr (.var 0) (.fn 6 (.pr (.fn 8 (.pr (.var 8) (.int 3))) (.int 0))))) = a5 at *
  try generalize E.I ρ (.var 9) = a6 at *
  omega
noncomputable def f74 : E := (.imp (.and (.not (.cmp .lss (.int 100000) (.fn 6 (.pr (.var 2) (.var 1))))) (.and (.cmp .eql (.var 3) (.fn 8 (.pr (.var 2) (.int 2)))) (.and (.not (.cmp .lss (.var 2) (.int 1))) (.and (.fn 100 (.pr (.var 0) (.pr (.var 1) (.pr (.var 1) (.int 1))))) (.and (.cmp .lss (.var 8) (.var 1)) (.and (.not (.cmp .eql (.fn 1 (.pr (.var 0) (.fn 6 (.pr (.fn 8 (.pr (.var 8) (.int 3))) (.int 2))))) (.int 1))) (.and (.not (.cmp .eql (.fn 1 (.pr (.var 0) (.fn 6 (.pr (.fn 8 (.pr (.var 8) (.int 3))) (.int 2))))) (.int 2))) (.and (.cmp .eql (.var 9) (.fn 8 (.pr (.var 8) (.int 2)))) (.and (.not (.cmp .lss (.var 1) (.var 8))) (.and (.not (.cmp .lss (.var 8) (.int 0))) (.and (.not (.cmp .lss (.int 50002) (.var 1))) (.and (.not (.cmp .lss (.var 1) (.int 1))) (.and (.not (.cmp .lss (.int 50002) (.var 1))) (.not (.cmp .lss (.var 1) (.int 1)))))))))))))))) (.cmp .eql (.fn 1 (.pr (.var 0) (.fn 6 (.pr (.fn 8 (.pr (.var 8) (.int 3))) (.int 1))))) (.int 0)))
theorem fact74 (ρ : Env) : E.B ρ f74 = true := by
  unfold f74
  rw [sm_B_imp]
  simp only [sm_B_and]
  rintro ⟨p0, p1, p2, p3, p4, p5, p6, p7, p8, p9, p10, p11, p12, p13⟩
  have g0 := rows_get p3 (.var 8)
  clear p3
  simp only [sm_I_int, sm_I_fn6, sm_I_fn7, sm_I_fn8, sm_B_bool, sm_B_eql, sm_B_lss, sm_B_not, sm_B_and, sm_B_imp, sm_B_iff, sm_I_add_i64, sm_I_sub_i64, sm_I_mul_i64, sm_I_rem, sm_I_wr, sm_I_mx, sm_I_mn] at *
  try generalize E.I ρ (.var 2) = a0 at *
  try generalize E.I ρ (.var 1) = a1 at *
  try generalize E.I ρ (.var 3) = a2 at *
  try generalize E.I ρ (.var 8) = a3 at *
  try generalize E.I ρ (.fn 1 (.pr (.var 0) (.fn 6 (.pr (.fn 8 (.pr (.var 8) (.int 3))) (.int 2))))) = a4 at *
  try generalize E.I ρ (.var 9) = a5 at *
  try generalize E.I ρ (.fn 1 (.pr (.var 0) (.fn 6 (.pr (.fn 8 (.pr (.var 8) (.int 3))) (.int 1))))) = a6 at *
  omega
noncomputable def f75 : E := (.imp (.and (.not (.cmp .lss (.int 100000) (.fn 6 (.pr (.var 2) (.var 1))))) (.and (.cmp .eql (.var 3) (.fn 8 (.pr (.var 2) (.int 2)))) (.and (.not (.cmp .lss (.var 2) (.int 1))) (.and (.fn 100 (.pr (.var 0) (.pr (.var 1) (.pr (.var 1) (.int 1))))) (.and (.cmp .lss (.var 8) (.var 1)) (.and (.not (.cmp .eql (.fn 1 (.pr (.var 0) (.fn 6 (.pr (.fn 8 (.pr (.var 8) (.int 3))) (.int 2))))) (.int 1))) (.and (.not (.cmp .eql (.fn 1 (.pr (.var 0) (.fn 6 (.pr (.fn 8 (.pr (.var 8) (.int 3))) (.int 2))))) (.int 2))) (.and (.cmp .eql (.var 9) (.fn 8 (.pr (.var 8) (.int 2)))) (.and (.not (.cmp .lss (.var 1) (.var 8))) (.and (.not (.cmp .lss (.var 8) (.int 0))) (.and (.not (.cmp .lss (.int 50002) (.var 1))) (.and (.not (.cmp .lss (.var 1) (.int 1))) (.and (.not (.cmp .lss (.int 50002) (.var 1))) (.not (.cmp .lss (.var 1) (.int 1)))))))))))))))) (.not (.cmp .eql (.fn 1 (.pr (.var 0) (.fn 6 (.pr (.fn 8 (.pr (.var 8) (.int 3))) (.int 1))))) (.int 0))))
theorem fact75 (ρ : Env) : E.B ρ f75 = true := by
  unfold f75
  rw [sm_B_imp]
  simp only [sm_B_and]
  rintro ⟨p0, p1, p2, p3, p4, p5, p6, p7, p8, p9, p10, p11, p12, p13⟩
  have g0 := rows_get p3 (.var 8)
  clear p3
  simp only [sm_I_int, sm_I_fn6, sm_I_fn7, sm_I_fn8, sm_B_bool, sm_B_eql, sm_B_lss, sm_B_not, sm_B_and, sm_B_imp, sm_B_iff, sm_I_add_i64, sm_I_sub_i64, sm_I_mul_i64, sm_I_rem, sm_I_wr, sm_I_mx, sm_I_mn] at *
  try generalize E.I ρ (.var 2) = a0 at *
  try generalize E.I ρ (.var 1) = a1 at *
  try generalize E.I ρ (.var 3) = a2 at *
  try generalize E.I ρ (.var 8) = a3 at *
  try generalize E.I ρ (.fn 1 (.pr (.var 0) (.fn 6 (.pr (.fn 8 (.pr (.var 8) (.int 3))) (.int 2))))) = a4 at *
  try generalize E.I ρ (.var 9) = a5 at *
  try generalize E.I ρ (.fn 1 (.pr (.var 0) (.fn 6 (.pr (.fn 8 (.pr (.var 8) (.int 3))) (.int 1))))) = a6 at *
  omega
noncomputable def f76 : E := (.imp (.and (.cmp .lss (.var 8) (.var 1)) (.and (.cmp .eql (.var 9) (.fn 8 (.pr (.var 8) (.int 2)))) (.and (.not (.cmp .lss (.var 1) (.var 8))) (.and (.not (.cmp .lss (.var 8) (.int 0))) (.and (.not (.cmp .lss (.int 50002) (.var 1))) (.and (.not (.cmp .lss (.var 1) (.int 1))) (.and (.not (.cmp .lss (.int 50002) (.var 1))) (.not (.cmp .lss (.var 1) (.int 1)))))))))) (.not (.cmp .lss (.fn 7 (.pr (.var 1) (.ar .add .i64 (.var 8) (.int 1)))) (.int 0))))
theorem fact76 (ρ : Env) : E.B ρ f76 = true := by
  unfold f76
  rw [sm_B_imp]
  simp only [sm_B_and]
  rintro ⟨p0, p1, p2, p3, p4, p5, p6, p7⟩
  simp only [sm_I_int, sm_I_fn6, sm_I_fn7, sm_I_fn8, sm_B_bool, sm_B_eql, sm_B_lss, sm_B_not, sm_B_and, sm_B_imp, sm_B_iff, sm_I_add_i64, sm_I_sub_i64, sm_I_mul_i64, sm_I_rem, sm_I_wr, sm_I_mx, sm_I_mn] at *
  try generalize E.I ρ (.var 8) = a0 at *
  try generalize E.I ρ (.var 1) = a1 at *
  try generalize E.I ρ (.var 9) = a2 at *
  obtain ⟨a3, ea3, qa3⟩ := cs_i64 (a0 + (1))
  try simp only [ea3] at *
  omega
noncomputable def f77 : E := (.imp (.and (.not (.cmp .lss (.int 100000) (.fn 6 (.pr (.var 2) (.var 1))))) (.and (.cmp .eql (.var 3) (.fn 8 (.pr (.var 2) (.int 2)))) (.and (.not (.cmp .lss (.var 2) (.int 1))) (.and (.fn 100 (.pr (.var 0) (.pr (.var 1) (.pr (.var 1) (.int 1))))) (.and (.cmp .lss (.var 8) (.var 1)) (.and (.not (.cmp .eql (.fn 1 (.pr (.var 0) (.fn 6 (.pr (.fn 8 (.pr (.var 8) (.int 3))) (.int 2))))) (.int 1))) (.and (.cmp .eql (.fn 1 (.pr (.var 0) (.fn 6 (.pr (.fn 8 (.pr (.var 8) (.int 3))) (.int 2))))) (.int 2)) (.and (.cmp .eql (.var 9) (.fn 8 (.pr (.var 8) (.int 2)))) (.and (.not (.cmp .lss (.var 1) (.var 8))) (.and (.not (.cmp .lss (.var 8) (.int 0))) (.and (.not (.cmp .lss (.int 50002) (.var 1))) (.and (.not (.cmp .lss (.var 1) (.int 1))) (.and (.not (.cmp .lss (.int 50002) (.var 1))) (.not (.cmp .lss (.var 1) (.int 1)))))))))))))))) (.cmp .eql (.fn 1 (.pr (.var 0) (.fn 6 (.pr (.fn 8 (.pr (.var 8) (.int 3))) (.int 0))))) (.int 0)))
theorem fact77 (ρ : Env) : E.B ρ f77 = true := by
  unfold f77
  rw [sm_B_imp]
  simp only [sm_B_and]
  rintro ⟨p0, p1, p2, p3, p4, p5, p6, p7, p8, p9, p10, p11, p12, p13⟩
  have g0 := rows_get p3 (.var 8)
  clear p3
  simp only [sm_I_int, sm_I_fn6, sm_I_fn7, sm_I_fn8, sm_B_bool, sm_B_eql, sm_B_lss, sm_B_not, sm_B_and, sm_B_imp, sm_B_iff, sm_I_add_i64, sm_I_sub_i64, sm_I_mul_i64, sm_I_rem, sm_I_wr, sm_I_mx, sm_I_mn] at *
  try generalize E.I ρ (.var 2) = a0 at *
  try generalize E.I ρ (.var 1) = a1 at *
  try generalize E.I ρ (.var 3) = a2 at *
  try generalize E.I ρ (.var 8) = a3 at *
  try generalize E.I ρ (.fn 1 (.pr (.var 0) (.fn 6 (.pr (.fn 8 (.pr (.var 8) (.int 3))) (.int 2))))) = a4 at *
  try generalize E.I ρ (.var 9) = a5 at *
  try generalize E.I ρ (.fn 1 (.pr (.var 0) (.fn 6 (.pr (.fn 8 (.pr (.var 8) (.int 3))) (.int 0))))) = a6 at *
  omega
noncomputable def f78 : E := (.imp (.and (.not (.cmp .lss (.int 100000) (.fn 6 (.pr (.var 2) (.var 1))))) (.and (.cmp .eql (.var 3) (.fn 8 (.pr (.var 2) (.int 2)))) (.and (.not (.cmp .lss (.var 2) (.int 1))) (.and (.fn 100 (.pr (.var 0) (.pr (.var 1) (.pr (.var 1) (.int 1))))) (.and (.cmp .lss (.var 8) (.var 1)) (.and (.not (.cmp .eql (.fn 1 (.pr (.var 0) (.fn 6 (.pr (.fn 8 (.pr (.var 8) (.int 3))) (.int 2))))) (.int 1))) (.and (.cmp .eql (.var 9) (.fn 8 (.pr (.var 8) (.int 2)))) (.and (.not (.cmp .lss (.var 1) (.var 8))) (.and (.not (.cmp .lss (.var 8) (.int 0))) (.and (.not (.cmp .lss (.int 50002) (.var 1))) (.and (.not (.cmp .lss (.var 1) (.int 1))) (.and (.not (.cmp .lss (.int 50002) (.var 1))) (.not (.cmp .lss (.var 1) (.int 1))))))))))))))) (.cmp .eql (.fn 1 (.pr (.var 0) (.fn 6 (.pr (.fn 8 (.pr (.var 8) (.int 3))) (.int 2))))) (.int 2)))
theorem fact78 (ρ : Env) : E.B ρ f78 = true := by
  unfold f78
  rw [sm_B_imp]
  simp only [sm_B_and]
  rintro ⟨p0, p1, p2, p3, p4, p5, p6, p7, p8, p9, p10, p11, p12⟩
  have g0 := rows_get p3 (.var 8)
  clear p3
  simp only [sm_I_int, sm_I_fn6, sm_I_fn7, sm_I_fn8, sm_B_bool, sm_B_eql, sm_B_lss, sm_B_not, sm_B_and, sm_B_imp, sm_B_iff, sm_I_add_i64, sm_I_sub_i64, sm_I_mul_i64, sm_I_rem, sm_I_wr, sm_I_mx, sm_I_mn] at *
  try generalize E.I ρ (.var 2) = a0 at *
  try generalize E.I ρ (.var 1) = a1 at *
  try generalize E.I ρ (.var 3) = a2 at *
  try generalize E.I ρ (.var 8) = a3 at *
  try generalize E.I ρ (.fn 1 (.pr (.var 0) (.fn 6 (.pr (.fn 8 (.pr (.var 8) (.int 3))) (.int 2))))) = a4 at *
  try generalize E.I ρ (.var 9) = a5 at *
  omega
noncomputable def f79 : E := (.imp (.and (.not (.cmp .lss (.int 100000) (.fn 6 (.pr (.var 2) (.var 1))))) (.and (.cmp .eql (.var 3) (.fn 8 (.pr (.var 2) (.int 2)))) (.and (.not (.cmp .lss (.var 2) (.int 1))) (.and (.fn 100 (.pr (.var 0) (.pr (.var 1) (.pr (.var 1) (.int 1))))) (.and (.cmp .lss (.var 8) (.var 1)) (.and (.not (.cmp .eql (.fn 1 (.pr (.var 0) (.fn 6 (.pr (.fn 8 (.pr (.var 8) (.int 3))) (.int 2))))) (.int 1))) (.and (.cmp .eql (.fn 1 (.pr (.var 0) (.fn 6 (.pr (.fn 8 (.pr (.var 8) (.int 3))) (.int 1))))) (.int 0)) (.and (.not (.cmp .eql (.fn 1 (.pr (.var 0) (.fn 6 (.pr (.fn 8 (.pr (.var 8) (.int 3))) (.int 0))))) (.int 0))) (.and (.cmp .eql (.var 9) (.fn 8 (.pr (.var 8) (.int 2)))) (.and (.not (.cmp .lss (.var 1) (.var 8))) (.and (.not (.cmp .lss (.var 8) (.int 0))) (.and (.not (.cmp .lss (.int 50002) (.var 1))) (.and (.not (.cmp .lss (.var 1) (.int 1))) (.and (.not (.cmp .lss (.int 50002) (.var 1))) (.not (.cmp .lss (.var 1) (.int 1))))))))))))))))) (.cmp .eql (.fn 1 (.pr (.var 0) (.fn 6 (.pr (.fn 8 (.pr (.var 8) (.int 3))) (.int 0))))) (.int 1)))
theorem fact79 (ρ : Env) : E.B ρ f79 = true := by
  unfold f79
  rw [sm_B_imp]
  simp only [sm_B_and]
  rintro ⟨p0, p1, p2, p3, p4, p5, p6, p7, p8, p9, p10, p11, p12, p13, p14⟩
  have g0 := rows_get p3 (.var 8)
  clear p3
  simp only [sm_I_int, sm_I_fn6, sm_I_fn7, sm_I_fn8, sm_B_bool, sm_B_eql, sm_B_lss, sm_B_not, sm_B_and, sm_B_imp, sm_B_iff, sm_I_add_i64, sm_I_sub_i64, sm_I_mul_i64, sm_I_rem, sm_I_wr, sm_I_mx, sm_I_mn] at *
  try generalize E.I ρ (.var 2) = a0 at *
  try generalize E.I ρ (.var 1) = a1 at *
  try generalize E.I ρ (.var 3) = a2 at *
  try generalize E.I ρ (.var 8) = a3 at *
  try generalize E.I ρ (.fn 1 (.pr (.var 0) (.fn 6 (.pr (.fn 8 (.pr (.var 8) (.int 3))) (.int 2))))) = a4 at *
  try generalize E.I ρ (.fn 1 (.pr (.var 0) (.fn 6 (.pr (.fn 8 (.pr (.var 8) (.int 3))) (.int 1))))) = a5 at *
  try generalize E.I ρ (.fn 1 (.pr (.var 0) (.fn 6 (.pr (.fn 8 (.pr (.var 8) (.int 3))) (.int 0))))) = a6 at *
  try generalize E.I ρ (.var 9) = a7 at *
  omega
noncomputable def f80 : E := (.imp (.and (.not (.cmp .lss (.int 100000) (.fn 6 (.pr (.var 2) (.var 1))))) (.and (.cmp .eql (.var 3) (.fn 8 (.pr (.var 2) (.int 2)))) (.and (.not (.cmp .lss (.var 2) (.int 1))) (.and (.fn 100 (.pr (.var 0) (.pr (.var 1) (.pr (.var 1) (.int 1))))) (.and (.cmp .lss (.var 8) (.var 1)) (.and (.not (.cmp .eql (.fn 1 (.pr (.var 0) (.fn 6 (.pr (.fn 8 (.pr (.var 8) (.int 3))) (.int 2))))) (.int 1))) (.and (.not (.cmp .eql (.fn 1 (.pr (.var 0) (.fn 6 (.pr (.fn 8 (.pr (.var 8) (.int 3))) (.int 1))))) (.int 0))) (.and (.cmp .eql (.fn 1 (.pr (.var 0) (.fn 6 (.pr (.fn 8 (.pr (.var 8) (.int 3))) (.int 1))))) (.int 1)) (.and (.not (.cmp .eql (.fn 1 (.pr (.var 0) (.fn 6 (.pr (.fn 8 (.pr (.var 8) (.int 3))) (.int 0))))) (.int 0))) (.and (.cmp .eql (.var 9) (.fn 8 (.pr (.var 8) (.int 2)))) (.and (.not (.cmp .lss (.var 1) (.var 8))) (.and (.not (.cmp .lss (.var 8) (.int 0))) (.and (.not (.cmp .lss (.int 50002) (.var 1))) (.and (.not (.cmp .lss (.var 1) (.int 1))) (.and (.not (.cmp .lss (.int 50002) (.var 1))) (.not (.cmp .lss (.var 1) (.int 1)))))))))))))))))) (.cmp .eql (.fn 1 (.pr (.var 0) (.fn 6 (.pr (.fn 8 (.pr (.var 8) (.int 3))) (.int 0))))) (.int 1)))
theorem fact80 (ρ : Env) : E.B ρ f80 = true := by
  unfold f80
  rw [sm_B_imp]
  simp only [sm_B_and]
  rintro ⟨p0, p1, p2, p3, p4, p5, p6, p7, p8, p9, p10, p11, p12, p13, p14, p15⟩
  have g0 := rows_get p3 (.var 8)
  clear p3
  simp only [sm_I_int, sm_I_fn6, sm_I_fn7, sm_I_fn8, sm_B_bool, sm_B_eql, sm_B_lss, sm_B_not, sm_B_and, sm_B_imp, sm_B_iff, sm_I_add_i64, sm_I_sub_i64, sm_I_mul_i64, sm_I_rem, sm_I_wr, sm_I_mx, sm_I_mn] at *
  try generalize E.I ρ (.var 2) = a0 at *
  try generalize E.I ρ (.var 1) = a1 at *
  try generalize E.I ρ (.var 3) = a2 at *
  try generalize E.I ρ (.var 8) = a3 at *
  try generalize E.I ρ (.fn 1 (.pr (.var 0) (.fn 6 (.pr (.fn 8 (.pr (.var 8) (.int 3))) (.int 2))))) = a4 at *
  try generalize E.I ρ (.fn 1 (.pr (.var 0) (.fn 6 (.pr (.fn 8 (.pr (.var 8) (.int 3))) (.int 1))))) = a5 at *
  try generalize E.I ρ (.fn 1 (.pr (.var 0) (.fn 6 (.pr (.fn 8 (.pr (.var 8) (.int 3))) (.int 0))))) = a6 at *
  try generalize E.I ρ (.var 9) = a7 at *
  omega
noncomputable def f81 : E := (.imp (.and (.not (.cmp .lss (.int 100000) (.fn 6 (.pr (.var 2) (.var 1))))) (.and (.cmp .eql (.var 3) (.fn 8 (.pr (.var 2) (.int 2)))) (.and (.not (.cmp .lss (.var 2) (.int 1))) (.and (.fn 100 (.pr (.var 0) (.pr (.var 1) (.pr (.var 1) (.int 1))))) (.and (.cmp .lss (.var 8) (.var 1)) (.and (.not (.cmp .eql (.fn 1 (.pr (.var 0) (.fn 6 (.pr (.fn 8 (.pr (.var 8) (.int 3))) (.int 2))))) (.int 1))) (.and (.not (.cmp .eql (.fn 1 (.pr (.var 0) (.fn 6 (.pr (.fn 8 (.pr (.var 8) (.int 3))) (.int 1))))) (.int 0))) (.and (.cmp .eql (.var 9) (.fn 8 (.pr (.var 8) (.int 2)))) (.and (.not (.cmp .lss (.var 1) (.var 8))) (.and (.not (.cmp .lss (.var 8) (.int 0))) (.and (.not (.cmp .lss (.int 50002) (.var 1))) (.and (.not (.cmp .lss (.var 1) (.int 1))) (.and (.not (.cmp .lss (.int 50002) (.var 1))) (.not (.cmp .lss (.var 1) (.int 1)))))))))))))))) (.cmp .eql (.fn 1 (.pr (.var 0) (.fn 6 (.pr (.fn 8 (.pr (.var 8) (.int 3))) (.int 1))))) (.int 1)))
theorem fact81 (ρ : Env) : E.B ρ f81 = true := by
  unfold f81
  rw [sm_B_imp]
  simp only [sm_B_and]
  rintro ⟨p0, p1, p2, p3, p4, p5, p6, p7, p8, p9, p10, p11, p12, p13⟩
  have g0 := rows_get p3 (.var 8)
  clear p3
  simp only [sm_I_int, sm_I_fn6, sm_I_fn7, sm_I_fn8, sm_B_bool, sm_B_eql, sm_B_lss, sm_B_not, sm_B_and, sm_B_imp, sm_B_iff, sm_I_add_i64, sm_I_sub_i64, sm_I_mul_i64, sm_I_rem, sm_I_wr, sm_I_mx, sm_I_mn] at *
  try generalize E.I ρ (.var 2) = a0 at *
  try generalize E.I ρ (.var 1) = a1 at *
  try generalize E.I ρ (.var 3) = a2 at *
  try generalize E.I ρ (.var 8) = a3 at *
  try generalize E.I ρ (.fn 1 (.pr (.var 0) (.fn 6 (.pr (.fn 8 (.pr (.var 8) (.int 3))) (.int 2))))) = a4 at *
  try generalize E.I ρ (.fn 1 (.pr (.var 0) (.fn 6 (.pr (.fn 8 (.pr (.var 8) (.int 3))) (.int 1))))) = a5 at *
  try generalize E.I ρ (.var 9) = a6 at *
  omega
noncomputable def f82 : E := (.imp (.and (.not (.cmp .lss (.int 100000) (.fn 6 (.pr (.var 2) (.var 1))))) (.and (.cmp .eql (.var 3) (.fn 8 (.pr (.var 2) (.int 2)))) (.and (.not (.cmp .lss (.var 2) (.int 1))) (.and (.fn 100 (.pr (.var 0) (.pr (.var 1) (.pr (.var 1) (.int 1))))) (.and (.cmp .lss (.var 8) (.var 1)) (.and (.not (.cmp .eql (.fn 1 (.pr (.var 0) (.fn 6 (.pr (.fn 8 (.pr (.var 8) (.int 3))) (.int 2))))) (.int 1))) (.and (.not (.cmp .eql (.fn 1 (.pr (.var 0) (.fn 6 (.pr (.fn 8 (.pr (.var 8) (.int 3))) (.int 1))))) (.int 0))) (.and (.not (.cmp .eql (.fn 1 (.pr (.var 0) (.fn 6 (.pr (.fn 8 (.pr (.var 8) (.int 3))) (.int 0))))) (.int 0))) (.and (.cmp .eql (.var 9) (.fn 8 (.pr (.var 8) (.int 2)))) (.and (.not (.cmp .lss (.var 1) (.var 8))) (.and (.not (.cmp .lss (.var 8) (.int 0))) (.and (.not (.cmp .lss (.int 50002) (.var 1))) (.and (.not (.cmp .lss (.var 1) (.int 1))) (.and (.not (.cmp .lss (.int 50002) (.var 1))) (.not (.cmp .lss (.var 1) (.int 1))))))))))))))))) (.cmp .eql (.fn 1 (.pr (.var 0) (.fn 6 (.pr (.fn 8 (.pr (.var 8) (.int 3))) (.int 0))))) (.int 1)))
theorem fact82 (ρ : Env) : E.B ρ f82 = true := by
  unfold f82
  rw [sm_B_imp]
  simp only [sm_B_and]
  rintro ⟨p0, p1, p2, p3, p4, p5, p6, p7, p8, p9, p10, p11, p12, p13, p14⟩
  have g0 := rows_get p3 (.var 8)
  clear p3
  simp only [sm_I_int, sm_I_fn6, sm_I_fn7, sm_I_fn8, sm_B_bool, sm_B_eql, sm_B_lss, sm_B_not, sm_B_and, sm_B_imp, sm_B_iff, sm_I_add_i64, sm_I_sub_i64, sm_I_mul_i64, sm_I_rem, sm_I_wr, sm_I_mx, sm_I_mn] at *
  try generalize E.I ρ (.var 2) = a0 at *
  try generalize E.I ρ (.var 1) = a1 at *
  try generalize E.I ρ (.var 3) = a2 at *
  try generalize E.I ρ (.var 8) = a3 at *
  try generalize E.I ρ (.fn 1 (.pr (.var 0) (.fn 6 (.pr (.fn 8 (.pr (.var 8) (.int 3))) (.int 2))))) = a4 at *
  try generalize E.I ρ (.fn 1 (.pr (.var 0) (.fn 6 (.pr (.fn 8 (.pr (.var 8) (.int 3))) (.int 1))))) = a5 at *
  try generalize E.I ρ (.fn 1 (.pr (.var 0) (.fn 6 (.pr (.fn 8 (.pr (.var 8) (.int 3))) (.int 0))))) = a6 at *
  try generalize E.I ρ (.var 9) = a7 at *
  omega
noncomputable def f83 : E := (.imp (.and (.not (.cmp .lss (.int 100000) (.fn 6 (.pr (.var 2) (.var 1))))) (.and (.cmp .eql (.var 3) (.fn 8 (.pr (.var 2) (.int 2)))) (.and (.not (.cmp .lss (.var 2) (.int 1))) (.and (.fn 100 (.pr (.var 0) (.pr (.var 1) (.pr (.var 1) (.int 1))))) (.and (.cmp .lss (.var 8) (.var 1)) (.and (.not (.cmp .eql (.fn 1 (.pr (.var 0) (.fn 6 (.pr (.fn 8 (.pr (.var 8) (.int 3))) (.int 2))))) (.int 1))) (.and (.not (.cmp .eql (.fn 1 (.pr (.var 0) (.fn 6 (.pr (.fn 8 (.pr (.var 8) (.int 3))) (.int 1))))) (.int 0))) (.and (.cmp .eql (.var 9) (.fn 8 (.pr (.var 8) (.int 2)))) (.and (.not (.cmp .lss (.var 1) (.var 8))) (.and (.not (.cmp .lss (.var 8) (.int 0))) (.and (.not (.cmp .lss (.int 50002) (.var 1))) (.and (.not (.cmp .lss (.var 1) (.int 1))) (.and (.not (.cmp .lss (.int 50002) (.var 1))) (.not (.cmp .lss (.var 1) (.int 1)))))))))))))))) (.cmp .eql (.fn 1 (.pr (.var 0) (.fn 6 (.pr (.fn 8 (.pr (.var 8) (.int 3))) (.int 0))))) (.int 0)))
theorem fact83 (ρ : Env) : E.B ρ f83 = true := by
  unfold f83
  rw [sm_B_imp]
  simp only [sm_B_and]
  rintro ⟨p0, p1, p2, p3, p4, p5, p6, p7, p8, p9, p10, p11, p12, p13⟩
  have g0 := rows_get p3 (.var 8)
  clear p3
  simp only [sm_I_int, sm_I_fn6, sm_I_fn7, sm_I_fn8, sm_B_bool, sm_B_eql, sm_B_lss, sm_B_not, sm_B_and, sm_B_imp, sm_B_iff, sm_I_add_i64, sm_I_sub_i64, sm_I_mul_i64, sm_I_rem, sm_I_wr, sm_I_mx, sm_I_mn] at *
  try generalize E.I ρ (.var 2) = a0 at *
  try generalize E.I ρ (.var 1) = a1 at *
  try generalize E.I ρ (.var 3) = a2 at *
  try generalize E.I ρ (.var 8) = a3 at *
  try generalize E.I ρ (.fn 1 (.pr (.var 0) (.fn 6 (.pr (.fn 8 (.pr (.var 8) (.int 3))) (.int 2))))) = a4 at *
  try generalize E.I ρ (.fn 1 (.pr (.var 0) (.fn 6 (.pr (.fn 8 (.pr (.var 8) (.int 3))) (.int 1))))) = a5 at *
  try generalize E.I ρ (.var 9) = a6 at *
  try generalize E.I ρ (.fn 1 (.pr (.var 0) (.fn 6 (.pr (.fn 8 (.pr (.var 8) (.int 3))) (.int 0))))) = a7 at *
  omega
noncomputable def f84 : E := (.imp (.and (.not (.cmp .lss (.int 100000) (.fn 6 (.pr (.var 2) (.var 1))))) (.and (.cmp .eql (.var 3) (.fn 8 (.pr (.var 2) (.int 2)))) (.and (.not (.cmp .lss (.var 2) (.int 1))) (.and (.fn 100 (.pr (.var 0) (.pr (.var 1) (.pr (.var 1) (.int 1))))) (.and (.cmp .lss (.var 8) (.var 1)) (.and (.not (.cmp .eql (.fn 1 (.pr (.var 0) (.fn 6 (.pr (.fn 8 (.pr (.var 8) (.int 3))) (.int 2))))) (.int 1))) (.and (.cmp .eql (.fn 1 (.pr (.var 0) (.fn 6 (.pr (.fn 8 (.pr (.var 8) (.int 3))) (.int 1))))) (.int 0)) (.and (.cmp .eql (.var 9) (.fn 8 (.pr (.var 8) (.int 2)))) (.and (.not (.cmp .lss (.var 1) (.var 8))) (.and (.not (.cmp .lss (.var 8) (.int 0))) (.and (.not (.cmp .lss (.int 50002) (.var 1))) (.and (.not (.cmp .lss (.var 1) (.int 1))) (.and (.not (.cmp .lss (.int 50002) (.var 1))) (.not (.cmp .lss (.var 1) (.int 1)))))))))))))))) (.cmp .eql (.fn 1 (.pr (.var 0) (.fn 6 (.pr (.fn 8 (.pr (.var 8) (.int 3))) (.int 0))))) (.int 0)))
theorem fact84 (ρ : Env) : E.B ρ f84 = true := by
  unfold f84
  rw [sm_B_imp]
  simp only [sm_B_and]
  rintro ⟨p0, p1, p2, p3, p4, p5, p6, p7, p8, p9, p10, p11, p12, p13⟩
  have g0 := rows_get p3 (.var 8)
  clear p3
  simp only [sm_I_int, sm_I_fn6, sm_I_fn7, sm_I_fn8, sm_B_bool, sm_B_eql, sm_B_lss, sm_B_not, sm_B_and, sm_B_imp, sm_B_iff, sm_I_add_i64, sm_I_sub_i64, sm_I_mul_i64, sm_I_rem, sm_I_wr, sm_I_mx, sm_I_mn] at *
  try generalize E.I ρ (.var 2) = a0 at *
  try generalize E.I ρ (.var 1) = a1 at *
  try generalize E.I ρ (.var 3) = a2 at *
  try generalize E.I ρ (.var 8) = a3 at *
  try generalize E.I ρ (.fn 1 (.pr (.var 0) (.fn 6 (.pr (.fn 8 (.pr (.var 8) (.int 3))) (.int 2))))) = a4 at *
  try generalize E.I ρ (.fn 1 (.pr (.var 0) (.fn 6 (.pr (.fn 8 (.pr (.var 8) (.int 3))) (.int 1))))) = a5 at *
  try generalize E.I ρ (.var 9) = a6 at *
  try generalize E.I ρ (.fn 1 (.pr (.var 0) (.fn 6 (.pr (.fn 8 (.pr (.var 8) (.int 3))) (.int 0))))) = a7 at *
  omega
noncomputable def f85 : E := (.imp (.and (.not (.cmp .lss (.int 100000) (.fn 6 (.pr (.var 2) (.var 1))))) (.and (.cmp .eql (.var 3) (.fn 8 (.pr (.var 2) (.int 2)))) (.and (.not (.cmp .lss (.var 2) (.int 1))) (.and (.fn 100 (.pr (.var 0) (.pr (.var 1) (.pr (.var 1) (.int 1))))) (.and (.cmp .lss (.var 8) (.var 1)) (.and (.not (.cmp .eql (.fn 1 (.pr (.var 0) (.fn 6 (.pr (.fn 8 (.pr (.var 8) (.int 3))) (.int 2))))) (.int 1))) (.and (.cmp .eql (.fn 1 (.pr (.var 0) (.fn 6 (.pr (.fn 8 (.pr (.var 8) (.int 3))) (.int 1))))) (.int 0)) (.and (.cmp .eql (.var 9) (.fn 8 (.pr (.var 8) (.int 2)))) (.and (.not (.cmp .lss (.var 1) (.var 8))) (.and (.not (.cmp .lss (.var 8) (.int 0))) (.and (.not (.cmp .lss (.int 50002) (.var 1))) (.and (.not (.cmp .lss (.var 1) (.int 1))) (.and (.not (.cmp .lss (.int 50002) (.var 1))) (.not (.cmp .lss (.var 1) (.int 1)))))))))))))))) (.not (.cmp .eql (.fn 1 (.pr (.var 0) (.fn 6 (.pr (.fn 8 (.pr (.var 8) (.int 3))) (.int 0))))) (.int 0))))
theorem fact85 (ρ : Env) : E.B ρ f85 = true := by
  unfold f85
  rw [sm_B_imp]
  simp only [sm_B_and]
  rintro ⟨p0, p1, p2, p3, p4, p5, p6, p7, p8, p9, p10, p11, p12, p13⟩
  have g0 := rows_get p3 (.var 8)
  clear p3
  simp only [sm_I_int, sm_I_fn6, sm_I_fn7, sm_I_fn8, sm_B_bool, sm_B_eql, sm_B_lss, sm_B_not, sm_B_and, sm_B_imp, sm_B_iff, sm_I_add_i64, sm_I_sub_i64, sm_I_mul_i64, sm_I_rem, sm_I_wr, sm_I_mx, sm_I_mn] at *
  try generalize E.I ρ (.var 2) = a0 at *
  try generalize E.I ρ (.var 1) = a1 at *
  try generalize E.I ρ (.var 3) = a2 at *
  try generalize E.I ρ (.var 8) = a3 at *
  try generalize E.I ρ (.fn 1 (.pr (.var 0) (.fn 6 (.pr (.fn 8 (.pr (.var 8) (.int 3))) (.int 2))))) = a4 at *
  try generalize E.I ρ (.fn 1 (.pr (.var 0) (.fn 6 (.pr (.fn 8 (.pr (.var 8) (.int 3))) (.int 1))))) = a5 at *
  try generalize E.I ρ (.var 9) = a6 at *
  try generalize E.I ρ (.fn 1 (.pr (.var 0) (.fn 6 (.pr (.fn 8 (.pr (.var 8) (.int 3))) (.int 0))))) = a7 at *
  omega
noncomputable def f86 : E := (.imp (.and (.not (.cmp .lss (.int 100000) (.fn 6 (.pr (.var 2) (.var 1))))) (.and (.cmp .eql (.var 3) (.fn 8 (.pr (.var 2) (.int 2)))) (.and (.not (.cmp .lss (.var 2) (.int 1))) (.and (.fn 100 (.pr (.var 0) (.pr (.var 1) (.pr (.var 1) (.int 1))))) (.and (.cmp .lss (.var 8) (.var 1)) (.and (.not (.cmp .eql (.fn 1 (.pr (.var 0) (.fn 6 (.pr (.fn 8 (.pr (.var 8) (.int 3))) (.int 2))))) (.int 1))) (.and (.cmp .eql (.var 9) (.fn 8 (.pr (.var 8) (.int 2)))) (.and (.not (.cmp .lss (.var 1) (.var 8))) (.and (.not (.cmp .lss (.var 8) (.int 0))) (.and (.not (.cmp .lss (.int 50002) (.var 1))) (.and (.not (.cmp .lss (.var 1) (.int 1))) (.and (.not (.cmp .lss (.int 50002) (.var 1))) (.not (.cmp .lss (.var 1) (.int 1))))))))))))))) (.not (.cmp .eql (.fn 1 (.pr (.var 0) (.fn 6 (.pr (.fn 8 (.pr (.var 8) (.int 3))) (.int 1))))) (.int 0))))
theorem fact86 (ρ : Env) : E.B ρ f86 = true := by
  unfold f86
  rw [sm_B_imp]
  simp only [sm_B_and]
  rintro ⟨p0, p1, p2, p3, p4, p5, p6, p7, p8, p9, p10, p11, p12⟩
  have g0 := rows_get p3 (.var 8)
  clear p3
  simp only [sm_I_int, sm_I_fn6, sm_I_fn7, sm_I_fn8, sm_B_bool, sm_B_eql, sm_B_lss, sm_B_not, sm_B_and, sm_B_imp, sm_B_iff, sm_I_add_i64, sm_I_sub_i64, sm_I_mul_i64, sm_I_rem, sm_I_wr, sm_I_mx, sm_I_mn] at *
  try generalize E.I ρ (.var 2) = a0 at *
  try generalize E.I ρ (.var 1) = a1 at *
  try generalize E.I ρ (.var 3) = a2 at *
  try generalize E.I ρ (.var 8) = a3 at *
  try generalize E.I ρ (.fn 1 (.pr (.var 0) (.fn 6 (.pr (.fn 8 (.pr (.var 8) (.int 3))) (.int 2))))) = a4 at *
  try generalize E.I ρ (.var 9) = a5 at *
  try generalize E.I ρ (.fn 1 (.pr (.var 0) (.fn 6 (.pr (.fn 8 (.pr (.var 8) (.int 3))) (.int 1))))) = a6 at *
  omega
noncomputable def f87 : E := (.imp (.and (.not (.cmp .lss (.int 100000) (.fn 6 (.pr (.var 2) (.var 1))))) (.and (.cmp .eql (.var 3) (.fn 8 (.pr (.var 2) (.int 2)))) (.and (.not (.cmp .lss (.var 2) (.int 1))) (.and (.fn 100 (.pr (.var 0) (.pr (.var 1) (.pr (.var 1) (.int 1))))) (.and (.cmp .lss (.var 8) (.var 1)) (.and (.not (.cmp .eql (.fn 1 (.pr (.var 0) (.fn 6 (.pr (.fn 8 (.pr (.var 8) (.int 3))) (.int 2))))) (.int 1))) (.and (.cmp .eql (.fn 1 (.pr (.var 0) (.fn 6 (.pr (.fn 8 (.pr (.var 8) (.int 3))) (.int 1))))) (.int 1)) (.and (.not (.cmp .eql (.fn 1 (.pr (.var 0) (.fn 6 (.pr (.fn 8 (.pr (.var 8) (.int 3))) (.int 0))))) (.int 0))) (.and (.cmp .eql (.var 9) (.fn 8 (.pr (.var 8) (.int 2)))) (.and (.not (.cmp .lss (.var 1) (.var 8))) (.and (.not (.cmp .lss (.var 8) (.int 0))) (.and (.not (.cmp .lss (.int 50002) (.var 1))) (.and (.not (.cmp .lss (.var 1) (.int 1))) (.and (.not (.cmp .lss (.int 50002) (.var 1))) (.not (.cmp .lss (.var 1) (.int 1))))))))))))))))) (.cmp .eql (.fn 1 (.pr (.var 0) (.fn 6 (.pr (.fn 8 (.pr (.var 8) (.int 3))) (.int 0))))) (.int 1)))
theorem fact87 (ρ : Env) : E.B ρ f87 = true := by
  unfold f87
  rw [sm_B_imp]
  simp only [sm_B_and]
  rintro ⟨p0, p1, p2, p3, p4, p5, p6, p7, p8, p9, p10, p11, p12, p13, p14⟩
  have g0 := rows_get p3 (.var 8)
  clear p3
  simp only [sm_I_int, sm_I_fn6, sm_I_fn7, sm_I_fn8, sm_B_bool, sm_B_eql, sm_B_lss, sm_B_not, sm_B_and, sm_B_imp, sm_B_iff, sm_I_add_i64, sm_I_sub_i64, sm_I_mul_i64, sm_I_rem, sm_I_wr, sm_I_mx, sm_I_mn] at *
  try generalize E.I ρ (.var 2) = a0 at *
  try generalize E.I ρ (.var 1) = a1 at *
  try generalize E.I ρ (.var 3) = a2 at *
  try generalize E.I ρ (.var 8) = a3 at *
  try generalize E.I ρ (.fn 1 (.pr (.var 0) (.fn 6 (.pr (.fn 8 (.pr (.var 8) (.int 3))) (.int 2))))) = a4 at *
  try generalize E.I ρ (.fn 1 (.pr (.var 0) (.fn 6 (.pr (.fn 8 (.pr (.var 8) (.int 3))) (.int 1))))) = a5 at *
  try generalize E.I ρ (.fn 1 (.pr (.var 0) (.fn 6 (.pr (.fn 8 (.pr (.var 8) (.int 3))) (.int 0))))) = a6 at *
  try generalize E.I ρ (.var 9) = a7 at *
  omega
noncomputable def f88 : E := (.imp (.and (.not (.cmp .lss (.int 100000) (.fn 6 (.pr (.var 2) (.var 1))))) (.and (.cmp .eql (.var 3) (.fn 8 (.pr (.var 2) (.int 2)))) (.and (.not (.cmp .lss (.var 2) (.int 1))) (.and (.fn 100 (.pr (.var 0) (.pr (.var 1) (.pr (.var 1) (.int 1))))) (.and (.cmp .lss (.var 8) (.var 1)) (.and (.not (.cmp .eql (.fn 1 (.pr (.var 0) (.fn 6 (.pr (.fn 8 (.pr (.var 8) (.int 3))) (.int 2))))) (.int 1))) (.and (.cmp .eql (.var 9) (.fn 8 (.pr (.var 8) (.int 2)))) (.and (.not (.cmp .lss (.var 1) (.var 8))) (.and (.not (.cmp .lss (.var 8) (.int 0))) (.and (.not (.cmp .lss (.int 50002) (.var 1))) (.and (.not (.cmp .lss (.var 1) (.int 1))) (.and (.not (.cmp .lss (.int 50002) (.var 1))) (.not (.cmp .lss (.var 1) (.int 1))))))))))))))) (.cmp .eql (.fn 1 (.pr (.var 0) (.fn 6 (.pr (.fn 8 (.pr (.var 8) (.int 3))) (.int 1))))) (.int 1)))
theorem fact88 (ρ : Env) : E.B ρ f88 = true := by
  unfold f88
  rw [sm_B_imp]
  simp only [sm_B_and]
  rintro ⟨p0, p1, p2, p3, p4, p5, p6, p7, p8, p9, p10, p11, p12⟩
  have g0 := rows_get p3 (.var 8)
  clear p3
  simp only [sm_I_int, sm_I_fn6, sm_I_fn7, sm_I_fn8, sm_B_bool, sm_B_eql, sm_B_lss, sm_B_not, sm_B_and, sm_B_imp, sm_B_iff, sm_I_add_i64, sm_I_sub_i64, sm_I_mul_i64, sm_I_rem, sm_I_wr, sm_I_mx, sm_I_mn] at *
  try generalize E.I ρ (.var 2) = a0 at *
  try generalize E.I ρ (.var 1) = a1 at *
  try generalize E.I ρ (.var 3) = a2 at *
  try generalize E.I ρ (.var 8) = a3 at *
  try generalize E.I ρ (.fn 1 (.pr (.var 0) (.fn 6 (.pr (.fn 8 (.pr (.var 8) (.int 3))) (.int 2))))) = a4 at *
  try generalize E.I ρ (.var 9) = a5 at *
  try generalize E.I ρ (.fn 1 (.pr (.var 0) (.fn 6 (.pr (.fn 8 (.pr (.var 8) (.int 3))) (.int 1))))) = a6 at *
  omega
noncomputable def f89 : E := (.imp (.and (.not (.cmp .lss (.int 100000) (.fn 6 (.pr (.var 2) (.var 1))))) (.and (.cmp .eql (.var 3) (.fn 8 (.pr (.var 2) (.int 2)))) (.and (.not (.cmp .lss (.var 2) (.int 1))) (.and (.fn 100 (.pr (.var 0) (.pr (.var 1) (.pr (.var 1) (.int 1))))) (.and (.cmp .lss (.var 8) (.var 1)) (.and (.not (.cmp .eql (.fn 1 (.pr (.var 0) (.fn 6 (.pr (.fn 8 (.pr (.var 8) (.int 3))) (.int 2))))) (.int 1))) (.and (.not (.cmp .eql (.fn 1 (.pr (.var 0) (.fn 6 (.pr (.fn 8 (.pr (.var 8) (.int 3))) (.int 0))))) (.int 0))) (.and (.cmp .eql (.var 9) (.fn 8 (.pr (.var 8) (.int 2)))) (.and (.not (.cmp .lss (.var 1) (.var 8))) (.and (.not (.cmp .lss (.var 8) (.int 0))) (.and (.not (.cmp .lss (.int 50002) (.var 1))) (.and (.not (.cmp .lss (.var 1) (.int 1))) (.and (.not (.cmp .lss (.int 50002) (.var 1))) (.not (.cmp .lss (.var 1) (.int 1)))))))))))))))) (.cmp .eql (.fn 1 (.pr (.var 0) (.fn 6 (.pr (.fn 8 (.pr (.var 8) (.int 3))) (.int 0))))) (.int 1)))
theorem fact89 (ρ : Env) : E.B ρ f89 = true := by
  unfold f89
  rw [sm_B_imp]
  simp only [sm_B_and]
  rintro ⟨p0, p1, p2, p3, p4, p5, p6, p7, p8, p9, p10, p11, p12, p13⟩
  have g0 := rows_get p3 (.var 8)
  clear p3
  simp only [sm_I_int, sm_I_fn6, sm_I_fn7, sm_I_fn8, sm_B_bool, sm_B_eql, sm_B_lss, sm_B_not, sm_B_and, sm_B_imp, sm_B_iff, sm_I_add_i64, sm_I_sub_i64, sm_I_mul_i64, sm_I_rem, sm_I_wr, sm_I_mx, sm_I_mn] at *
  try generalize E.I ρ (.var 2) = a0 at *
  try generalize E.I ρ (.var 1) = a1 at *
  try generalize E.I ρ (.var 3) = a2 at *
  try generalize E.I ρ (.var 8) = a3 at *
  try generalize E.I ρ (.fn 1 (.pr (.var 0) (.fn 6 (.pr (.fn 8 (.pr (.var 8) (.int 3))) (.int 2))))) = a4 at *
  try generalize E.I ρ (.fn 1 (.pr (.var 0) (.fn 6 (.pr (.fn 8 (.pr (.var 8) (.int 3))) (.int 0))))) = a5 at *
  try generalize E.I ρ (.var 9) = a6 at *
  omega
noncomputable def f90 : E := (.imp (.and (.not (.cmp .lss (.int 100000) (.fn 6 (.pr (.var 2) (.var 1))))) (.and (.cmp .eql (.var 3) (.fn 8 (.pr (.var 2) (.int 2)))) (.and (.not (.cmp .lss (.var 2) (.int 1))) (.and (.fn 100 (.pr (.var 0) (.pr (.var 1) (.pr (.var 1) (.int 1))))) (.and (.cmp .lss (.var 8) (.var 1)) (.and (.not (.cmp .eql (.fn 1 (.pr (.var 0) (.fn 6 (.pr (.fn 8 (.pr (.var 8) (.int 3))) (.int 2))))) (.int 1))) (.and (.cmp .eql (.var 9) (.fn 8 (.pr (.var 8) (.int 2)))) (.and (.not (.cmp .lss (.var 1) (.var 8))) (.and (.not (.cmp .lss (.var 8) (.int 0))) (.and (.not (.cmp .lss (.int 50002) (.var 1))) (.and (.not (.cmp .lss (.var 1) (.int 1))) (.and (.not (.cmp .lss (.int 50002) (.var 1))) (.not (.cmp .lss (.var 1) (.int 1))))))))))))))) (.cmp .eql (.fn 1 (.pr (.var 0) (.fn 6 (.pr (.fn 8 (.pr (.var 8) (.int 3))) (.int 0))))) (.int 0)))
theorem fact90 (ρ : Env) : E.B ρ f90 = true := by
  unfold f90
  rw [sm_B_imp]
  simp only [sm_B_and]
  rintro ⟨p0, p1, p2, p3, p4, p5, p6, p7, p8, p9, p10, p11, p12⟩
  have g0 := rows_get p3 (.var 8)
  clear p3
  simp only [sm_I_int, sm_I_fn6, sm_I_fn7, sm_I_fn8, sm_B_bool, sm_B_eql, sm_B_lss, sm_B_not, sm_B_and, sm_B_imp, sm_B_iff, sm_I_add_i64, sm_I_sub_i64, sm_I_mul_i64, sm_I_rem, sm_I_wr, sm_I_mx, sm_I_mn] at *
  try generalize E.I ρ (.var 2) = a0 at *
  try generalize E.I ρ (.var 1) = a1 at *
  try generalize E.I ρ (.var 3) = a2 at *
  try generalize E.I ρ (.var 8) = a3 at *
  try generalize E.I ρ (.fn 1 (.pr (.var 0) (.fn 6 (.pr (.fn 8 (.pr (.var 8) (.int 3))) (.int 2))))) = a4 at *
  try generalize E.I ρ (.var 9) = a5 at *
  try generalize E.I ρ (.fn 1 (.pr (.var 0) (.fn 6 (.pr (.fn 8 (.pr (.var 8) (.int 3))) (.int 0))))) = a6 at *
  omega
noncomputable def facts : List E := [f0, f1, f2, f3, f4, f5, f6, f7, f8, f9, f10, f11, f12, f13, f14, f15, f16, f17, f18, f19, f20, f21, f22, f23, f24, f25, f26, f27, f28, f29, f30, f31, f32, f33, f34, f35, f36, f37, f38, f39, f40, f41, f42, f43, f44, f45, f46, f47, f48, f49, f50, f51, f52, f53, f54, f55, f56, f57, f58, f59, f60, f61, f62, f63, f64, f65, f66, f67, f68, f69, f70, f71, f72, f73, f74, f75, f76, f77, f78, f79, f80, f81, f82, f83, f84, f85, f86, f87, f88, f89, f90]
theorem facts_ok : ∀ e ∈ facts, ∀ ρ : Env, E.B ρ e = true := (all_cons fact0 (all_cons fact1 (all_cons fact2 (all_cons fact3 (all_cons fact4 (all_cons fact5 (all_cons fact6 (all_cons fact7 (all_cons fact8 (all_cons fact9 (all_cons fact10 (all_cons fact11 (all_cons fact12 (all_cons fact13 (all_cons fact14 (all_cons fact15 (all_cons fact16 (all_cons fact17 (all_cons fact18 (all_cons fact19 (all_cons fact20 (all_cons fact21 (all_cons fact22 (all_cons fact23 (all_cons fact24 (all_cons fact25 (all_cons fact26 (all_cons fact27 (all_cons fact28 (all_cons fact29 (all_cons fact30 (all_cons fact31 (all_cons fact32 (all_cons fact33 (all_cons fact34 (all_cons fact35 (all_cons fact36 (all_cons fact37 (all_cons fact38 (all_cons fact39 (all_cons fact40 (all_cons fact41 (all_cons fact42 (all_cons fact43 (all_cons fact44 (all_cons fact45 (all_cons fact46 (all_cons fact47 (all_cons fact48 (all_cons fact49 (all_cons fact50 (all_cons fact51 (all_cons fact52 (all_cons fact53 (all_cons fact54 (all_cons fact55 (all_cons fact56 (all_cons fact57 (all_cons fact58 (all_cons fact59 (all_cons fact60 (all_cons fact61 (all_cons fact62 (all_cons fact63 (all_cons fact64 (all_cons fact65 (all_cons fact66 (all_cons fact67 (all_cons fact68 (all_cons fact69 (all_cons fact70 (all_cons fact71 (all_cons fact72 (all_cons fact73 (all_cons fact74 (all_cons fact75 (all_cons fact76 (all_cons fact77 (all_cons fact78 (all_cons fact79 (all_cons fact80 (all_cons fact81 (all_cons fact82 (all_cons fact83 (all_cons fact84 (all_cons fact85 (all_cons fact86 (all_cons fact87 (all_cons fact88 (all_cons fact89 (all_cons fact90 all_nil)))))))))))))))))))))))))))))))))))))))))))))))))))))))))))))))))))))))))))))))))))))))))))
end p0
set_option maxRecDepth 100000 in
theorem spec0_0 : NatOk Try.prog (specNat (spB)) :=
  spec_of_check good (facts := p0.facts) p0.facts_ok (anns := annsB) (plainAnns_ok _ (by kernel_rfl)) (nats := natl1) natl1_ok (n := 3000) (by kernel_rfl)
noncomputable def natl2 : List Nat1 := specNat (spB) :: natl1
theorem natl2_ok : ∀ x ∈ natl2, NatOk Try.prog x := by
  intro x hx
  rcases List.mem_cons.1 hx with rfl | hx
  · exact spec0_0
  exact natl1_ok x hx

end Go.Proofs.Ytmngplmblanhdaa.metaFulls

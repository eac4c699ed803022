/-
  ClockValid: one reckoning by the kernel, with some facts of arithmetic.
-/
import Derived.Test.YthgcmholjlijeaaRows
import Derived.Test.YthgcmholjlijeaaSXb
import Derived.WalkKit
import Derived.ProofKit
import Derived.OpenShut
import Derived.ChangeOld
import Derived.Below
import Derived.KernelRfl
import Derived.Lib.SmallJoins
namespace Go.Proofs.Ythgcmholjlijeaa.clockValid
open Go.ChangeShapes Go.WideShapes Go.ChangeAt Go.RowKit
open Go.SX
set_option linter.unusedVariables false
set_option linter.unusedSimpArgs false

theorem own : ownKnob Try.prog.godebug = none := by kernel_rfl
theorem laidOut : laidOutB Try.prog = true := by kernel_rfl
theorem good : progOk Try.prog = true := by kernel_rfl

theorem fact0 (x0 x1 x2 x3 : Int) (r0 : 0 ≤ x0 ∧ x0 < 18446744073709551616) (r1 : 0 ≤ x1 ∧ x1 < 18446744073709551616) (r2 : 0 ≤ x2 ∧ x2 < 18446744073709551616) (r3 : 0 ≤ x3 ∧ x3 < 18446744073709551616) : E.B ⟨[.int x0, .int x1, .int x2, .int x3], []⟩ (.cmp .eql (.ar .sub .u64 (.var 0) (.int 0)) (.var 0)) = true := by
  simp only [sm_I_int, sm_I_var, sm_I_mn, sm_I_mx, sm_I_add_u64, sm_I_sub_u64, sm_B_bool, sm_B_eql, sm_B_lss, sm_B_not, sm_B_and, sm_B_imp, sm_B_iff, getD_cons_zero, getD_cons_succ, toI_int]
  obtain ⟨y0, e0, q0, h0⟩ := cs_sub r0 (by omega : (0:Int) ≤ 0 ∧ (0:Int) < 18446744073709551616)
  try simp only [e0]
  omega
theorem fact1 (x0 x1 x2 x3 : Int) (r0 : 0 ≤ x0 ∧ x0 < 18446744073709551616) (r1 : 0 ≤ x1 ∧ x1 < 18446744073709551616) (r2 : 0 ≤ x2 ∧ x2 < 18446744073709551616) (r3 : 0 ≤ x3 ∧ x3 < 18446744073709551616) : E.B ⟨[.int x0, .int x1, .int x2, .int x3], []⟩ (.cmp .eql (.ar .sub .u64 (.var 1) (.int 0)) (.var 1)) = true := by
  simp only [sm_I_int, sm_I_var, sm_I_mn, sm_I_mx, sm_I_add_u64, sm_I_sub_u64, sm_B_bool, sm_B_eql, sm_B_lss, sm_B_not, sm_B_and, sm_B_imp, sm_B_iff, getD_cons_zero, getD_cons_succ, toI_int]
  obtain ⟨y0, e0, q0, h0⟩ := cs_sub r1 (by omega : (0:Int) ≤ 0 ∧ (0:Int) < 18446744073709551616)
  try simp only [e0]
  omega
theorem fact2 (x0 x1 x2 x3 : Int) (r0 : 0 ≤ x0 ∧ x0 < 18446744073709551616) (r1 : 0 ≤ x1 ∧ x1 < 18446744073709551616) (r2 : 0 ≤ x2 ∧ x2 < 18446744073709551616) (r3 : 0 ≤ x3 ∧ x3 < 18446744073709551616) : E.B ⟨[.int x0, .int x1, .int x2, .int x3], []⟩ (.imp (.not (.cmp .lss (.var 0) (.int 1))) (.not (.cmp .eql (.var 0) (.int 0)))) = true := by
  simp only [sm_I_int, sm_I_var, sm_I_mn, sm_I_mx, sm_I_add_u64, sm_I_sub_u64, sm_B_bool, sm_B_eql, sm_B_lss, sm_B_not, sm_B_and, sm_B_imp, sm_B_iff, getD_cons_zero, getD_cons_succ, toI_int]
  omega
def facts : List E := [(.cmp .eql (.ar .sub .u64 (.var 0) (.int 0)) (.var 0)),
  (.cmp .eql (.ar .sub .u64 (.var 1) (.int 0)) (.var 1)),
  (.imp (.not (.cmp .lss (.var 0) (.int 1))) (.not (.cmp .eql (.var 0) (.int 0))))]

set_option maxRecDepth 100000 in
theorem reckoned : withTab Try.prog (fun tb => checkAll outTrue (run Try.prog tb 2000 (.call 4 [.agg [.int .u64 (.var 0), .int .u64 (.var 1), .int .u64 (.var 2), .int .u64 (.var 3)]]) .nil (varSt 4 facts) SX.one)) = true := by kernel_rfl

theorem walk {H : Type} (W : World) (base : Nat) (enc : TypeId × Value → H) (v0 : Value) (d0 : DataW H) (p0 : List MemPlace)
    (o0 : Value.okWide Try.prog W .any base 25 v0) (h0 : DataW.Trod enc Try.prog W 0 (fun _ => true) true 25 v0 d0 p0) :
    Calls Try.prog 4 #[v0] W fun e W' => e = .returned (.bool true) ∧ Below W.heap.size W W' := by
  obtain ⟨c0_0, c0_1, c0_2, c0_3, y0_0, y0_1, y0_2, y0_3, n0, rfl, _, _, t0_0, t0_1, t0_2, t0_3⟩ := Joins.open_agg4 Try.underlying25 (by kernel_rfl) (by kernel_rfl) o0 h0
  obtain ⟨x0, z0, _, w0⟩ := DataW.trod_int Try.underlying23 t0_0
  simp only [List.cons.injEq, and_true] at z0
  subst z0
  have r0 := wf_u64 w0
  obtain ⟨x1, z1, _, w1⟩ := DataW.trod_int Try.underlying23 t0_1
  simp only [List.cons.injEq, and_true] at z1
  subst z1
  have r1 := wf_u64 w1
  obtain ⟨x2, z2, _, w2⟩ := DataW.trod_int Try.underlying23 t0_2
  simp only [List.cons.injEq, and_true] at z2
  subst z2
  have r2 := wf_u64 w2
  obtain ⟨x3, z3, _, w3⟩ := DataW.trod_int Try.underlying23 t0_3
  simp only [List.cons.injEq, and_true] at z3
  subst z3
  have r3 := wf_u64 w3
  exact true_of_check good (vs := [.int x0, .int x1, .int x2, .int x3]) (pc := facts) reckoned (pc_cons (fact0 x0 x1 x2 x3 r0 r1 r2 r3) (pc_cons (fact1 x0 x1 x2 x3 r0 r1 r2 r3) (pc_cons (fact2 x0 x1 x2 x3 r0 r1 r2 r3) pc_nil))) W

set_option maxRecDepth 100000 in
theorem lifted (os : Os) (started : os.Started) (H : Type) (enc : TypeId × Value → H) :
    ReturnsInHanded {} Try.checked os 4 .any (Rows.clockValidSpec.pre6 enc Try.prog Try.f4 Rows.clockValidRow.domain false) (Rows.clockValidSpec.post enc Try.prog Try.f4 false true false false) := by
  refine returnsInHanded_of_change (C := Try.checked) own started (by kernel_rfl) Try.func4
    (ChangeSpec.witness6 (enc := enc) (C := Try.checked) false ⟨#[], #[.agg #[.int .u64 0, .int .u64 0, .int .u64 0, .int .u64 0]], []⟩ 8 (by kernel_rfl) (by kernel_rfl) (by kernel_rfl) (by kernel_rfl)) ?_
  intro W base args ds gs before hval0 hW hcnd _
  have hval : ∀ (j : Nat) t v, Try.f4.params[j]? = some t → args[j]? = some v → Value.okWide Try.prog W .any base t v := hval0
  have hW' := hW
  obtain ⟨p, q, hA0, hV, rfl, hfz, hnd⟩ := hW
  have hA : DataW.TrodAll enc Try.prog W 0 (fun _ => true) true Try.f4.params.toList args.toList ds p := hA0
  rw [Try.params4] at hA hval
  obtain ⟨v0, vs0, d0, ds0, p0, q0, hargs, rfl, rfl, h0, r0⟩ := trodAll_cons hA
  obtain ⟨rfl, rfl, rfl⟩ := trodAll_nil r0
  obtain rfl : args = #[v0] := by cases args; simp_all
  obtain ⟨rfl, rfl⟩ := trodVars_none hV
  have lt0 : ∀ x ∈ p0, x.block < W.heap.size := by obtain ⟨m, hm⟩ := h0; exact DataW.trod_lt m _ _ _ hm
  have o0 := hval 0 25 v0 rfl rfl
  clear hA0 hval0
  refine (walk W base enc v0 d0 p0 o0 h0).mono fun e W' ⟨he, bel⟩ => ?_
  subst he
  exact ⟨_, rfl, _, _, _, [], _, [], hW', trodAll_mk1 (shut_bool Try.underlying4 _), (trodAll_cons_mk (Below.trod laidOut (by kernel_rfl) (of_decide_eq_true (by kernel_rfl)) h0 bel lt0) trodAll_mk0), rfl, bel.frame _, fun h => by cases h⟩

theorem over : Rows.clockValidRow.holds Try.pinned (OpenSpec.ofChange Rows.clockValidSpec) :=
  OpenClaim.holds_of_wide 4 Try.f4 rfl rfl rfl rfl rfl rfl rfl ⟨rfl, rfl, rfl, rfl, rfl⟩ rfl rfl rfl rfl rfl (by kernel_rfl) Try.func4 (by kernel_rfl)
    (of_decide_eq_true (by kernel_rfl)) (by unfold Func.isWrapper; first | (rw [if_pos (by decide +kernel)]; kernel_rfl) | (rw [if_neg (by decide +kernel)]; exact ⟨rfl, rfl⟩))
    (fun os started H enc _ => lifted os started H enc)

theorem proved : Rows.ClockValidSaid := over

end Go.Proofs.Ythgcmholjlijeaa.clockValid

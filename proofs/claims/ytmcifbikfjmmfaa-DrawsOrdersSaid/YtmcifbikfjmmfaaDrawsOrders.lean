/-
  DrawsOrders: each order of at most five elements comes by some draws, and each by only one of those below the bounds; reckoned by the kernel round by round.
-/
import Derived.Test.YtmcifbikfjmmfaaRows
import Derived.Test.YtmcifbikfjmmfaaSXd
import Derived.WalkKit
import Derived.ProofKit
import Derived.OpenShut
import Derived.ChangeOld
import Derived.Below
import Derived.KernelRfl
import Derived.Lib.SmallJoins
import Derived.Test.YtmcifbikfjmmfaaDrawsOrdersPartd
namespace Go.Proofs.Ytmcifbikfjmmfaa.drawsOrders
open Go.ChangeShapes Go.WideShapes Go.ChangeAt Go.RowKit
open Go.SX
set_option linter.unusedVariables false
set_option linter.unusedSimpArgs false
set_option maxRecDepth 100000
set_option maxRecDepth 100000 in
theorem reckoned_0 : withTab Try.prog (fun tb => checkAll outTrue (run Try.prog (tb.plus facts [] natl) 20000 (.call 3 (args 0)) .nil (varSt 1 pc1) SX.one)) = true := by kernel_rfl
set_option maxRecDepth 100000 in
theorem reckoned_1 : withTab Try.prog (fun tb => checkAll outTrue (run Try.prog (tb.plus facts [] natl) 20000 (.call 3 (args 1)) .nil (varSt 1 pc1) SX.one)) = true := by kernel_rfl
set_option maxRecDepth 100000 in
theorem reckoned_2 : withTab Try.prog (fun tb => checkAll outTrue (run Try.prog (tb.plus facts [] natl) 20000 (.call 3 (args 2)) .nil (varSt 1 pc1) SX.one)) = true := by kernel_rfl
set_option maxRecDepth 100000 in
theorem reckoned_3 : withTab Try.prog (fun tb => checkAll outTrue (run Try.prog (tb.plus facts [] natl) 20000 (.call 3 (args 3)) .nil (varSt 1 pc1) SX.one)) = true := by kernel_rfl
set_option maxRecDepth 100000 in
theorem reckoned_4 : withTab Try.prog (fun tb => checkAll outTrue (run Try.prog (tb.plus facts [ann4] natl) 20000 (.call 3 (args 4)) .nil (varSt 1 pc1) SX.one)) = true := by kernel_rfl
set_option maxRecDepth 100000 in
theorem reckoned_5 : withTab Try.prog (fun tb => checkAll outTrue (run Try.prog (tb.plus facts [ann5] natl) 20000 (.call 3 (args 5)) .nil (varSt 1 pc1) SX.one)) = true := by kernel_rfl
noncomputable def argv : List SV := [.int .i64 (.var 1), .int .u64 (.var 0)]
set_option maxRecDepth 100000 in
theorem reckoned_lo : withTab Try.prog (fun tb => checkAll outTrue (run Try.prog (tb.plus facts [] natl) 20000 (.call 3 argv) .nil (varSt 2 [.cmp .lss (.var 1) (.int 0)]) SX.one)) = true := by kernel_rfl
set_option maxRecDepth 100000 in
theorem reckoned_hi : withTab Try.prog (fun tb => checkAll outTrue (run Try.prog (tb.plus facts [] natl) 20000 (.call 3 argv) .nil (varSt 2 [.cmp .lss (.int 5) (.var 1)]) SX.one)) = true := by kernel_rfl
set_option maxRecDepth 100000 in
theorem walk {H : Type} (W : World) (base : Nat) (enc : TypeId × Value → H) (v0 : Value) (d0 : DataW H) (p0 : List MemPlace) (v1 : Value) (d1 : DataW H) (p1 : List MemPlace)
    (o0 : Value.okWide Try.prog W .any base 3 v0) (h0 : DataW.Trod enc Try.prog W 0 (fun _ => true) true 3 v0 d0 p0)
    (o1 : Value.okWide Try.prog W .any base 22 v1) (h1 : DataW.Trod enc Try.prog W 0 (fun _ => true) true 22 v1 d1 p1) :
    Calls Try.prog 3 #[v0, v1] W fun e W' => e = .returned (.bool true) ∧ Below W.heap.size W W' := by
  obtain ⟨x0, rfl, _, _, w0⟩ := open_int Try.underlying3 o0 h0
  have r0 := wf_i64 w0
  obtain ⟨x1, rfl, _, _, w1⟩ := open_int Try.underlying22 o1 h1
  have r1 := wf_u64 w1
  have hpc : ∀ e ∈ pc1, e.B (Env.of [.int x1]) = true := by
    unfold pc1
    simp only [u64R]
    repeat' (refine pc_cons ?_ ?_)
    all_goals first
      | exact pc_nil
      | (simp only [eLe, eLt, eV, Env.of, sm_I_int, sm_I_var, sm_B_lss, sm_B_not, getD_cons_zero, getD_cons_succ, toI_int]; omega)
  by_cases hlo : x0 < 0
  · refine true_of_check2 good (facts := facts) facts_ok (anns := []) (plainAnns_ok _ rfl) natl_ok (vs := [.int x1, .int x0]) reckoned_lo ?_ W ⟨trivial, trivial, trivial⟩
    refine pc_cons ?_ pc_nil
    simp only [Env.of, sm_I_int, sm_I_var, sm_B_lss, getD_cons_zero, getD_cons_succ, toI_int]; exact hlo
  by_cases hhi : 5 < x0
  · refine true_of_check2 good (facts := facts) facts_ok (anns := []) (plainAnns_ok _ rfl) natl_ok (vs := [.int x1, .int x0]) reckoned_hi ?_ W ⟨trivial, trivial, trivial⟩
    refine pc_cons ?_ pc_nil
    simp only [Env.of, sm_I_int, sm_I_var, sm_B_lss, getD_cons_zero, getD_cons_succ, toI_int]; exact hhi
  have hall : x0 = 0 ∨ x0 = 1 ∨ x0 = 2 ∨ x0 = 3 ∨ x0 = 4 ∨ x0 = 5 := by omega
  have one5 : ∀ x ∈ [ann4], LoopOk Try.prog x := by
    intro x hx
    rcases List.mem_cons.1 hx with rfl | hx
    · exact loop4
    · cases hx
  have one6 : ∀ x ∈ [ann5], LoopOk Try.prog x := by
    intro x hx
    rcases List.mem_cons.1 hx with rfl | hx
    · exact loop5
    · cases hx
  rcases hall with rfl | rfl | rfl | rfl | rfl | rfl
  · exact true_of_check2 good (facts := facts) facts_ok (anns := []) (plainAnns_ok _ rfl) natl_ok (vs := [.int x1]) (args := args 0) reckoned_0 hpc W ⟨trivial, trivial, trivial⟩
  · exact true_of_check2 good (facts := facts) facts_ok (anns := []) (plainAnns_ok _ rfl) natl_ok (vs := [.int x1]) (args := args 1) reckoned_1 hpc W ⟨trivial, trivial, trivial⟩
  · exact true_of_check2 good (facts := facts) facts_ok (anns := []) (plainAnns_ok _ rfl) natl_ok (vs := [.int x1]) (args := args 2) reckoned_2 hpc W ⟨trivial, trivial, trivial⟩
  · exact true_of_check2 good (facts := facts) facts_ok (anns := []) (plainAnns_ok _ rfl) natl_ok (vs := [.int x1]) (args := args 3) reckoned_3 hpc W ⟨trivial, trivial, trivial⟩
  · exact true_of_check2 good (facts := facts) facts_ok (anns := [ann4]) one5 natl_ok (vs := [.int x1]) (args := args 4) reckoned_4 hpc W ⟨trivial, trivial, trivial⟩
  · exact true_of_check2 good (facts := facts) facts_ok (anns := [ann5]) one6 natl_ok (vs := [.int x1]) (args := args 5) reckoned_5 hpc W ⟨trivial, trivial, trivial⟩
set_option maxRecDepth 100000 in
theorem lifted (os : Os) (started : os.Started) (H : Type) (enc : TypeId × Value → H) :
    ReturnsInHanded {} Try.checked os 3 .any (Rows.drawsOrdersSpec.pre6 enc Try.prog Try.f3 Rows.drawsOrdersRow.domain false) (Rows.drawsOrdersSpec.post enc Try.prog Try.f3 false true false false) := by
  refine returnsInHanded_of_change (C := Try.checked) own started (by kernel_rfl) Try.func3
    (ChangeSpec.witness6 (enc := enc) (C := Try.checked) false ⟨#[], #[.int .i64 0, .int .u64 0], []⟩ 8 (by kernel_rfl) (by kernel_rfl) (by kernel_rfl) (by kernel_rfl)) ?_
  intro W base args ds gs before hval0 hW hcnd _
  have hval : ∀ (j : Nat) t v, Try.f3.params[j]? = some t → args[j]? = some v → Value.okWide Try.prog W .any base t v := hval0
  have hW' := hW
  obtain ⟨p, q, hA0, hV, rfl, hfz, hnd⟩ := hW
  have hA : DataW.TrodAll enc Try.prog W 0 (fun _ => true) true Try.f3.params.toList args.toList ds p := hA0
  rw [Try.params3] at hA hval
  obtain ⟨v0, vs0, d0, ds0, p0, q0, hargs, rfl, rfl, h0, r0⟩ := trodAll_cons hA
  obtain ⟨v1, vs1, d1, ds1, p1, q1, rfl, rfl, rfl, h1, r1⟩ := trodAll_cons r0
  obtain ⟨rfl, rfl, rfl⟩ := trodAll_nil r1
  obtain rfl : args = #[v0, v1] := by cases args; simp_all
  obtain ⟨rfl, rfl⟩ := trodVars_none hV
  have lt0 : ∀ x ∈ p0, x.block < W.heap.size := by obtain ⟨m, hm⟩ := h0; exact DataW.trod_lt m _ _ _ hm
  have lt1 : ∀ x ∈ p1, x.block < W.heap.size := by obtain ⟨m, hm⟩ := h1; exact DataW.trod_lt m _ _ _ hm
  have o0 := hval 0 3 v0 rfl rfl
  have o1 := hval 1 22 v1 rfl rfl
  clear hA0 hval0
  refine (walk W base enc v0 d0 p0 v1 d1 p1 o0 h0 o1 h1).mono fun e W' ⟨he, bel⟩ => ?_
  subst he
  exact ⟨_, rfl, _, _, _, [], _, [], hW', trodAll_mk1 (shut_bool Try.underlying4 _), (trodAll_cons_mk (Below.trod laidOut (by kernel_rfl) (of_decide_eq_true (by kernel_rfl)) h0 bel lt0) (trodAll_cons_mk (Below.trod laidOut (by kernel_rfl) (of_decide_eq_true (by kernel_rfl)) h1 bel lt1) trodAll_mk0)), rfl, bel.frame _, fun h => by cases h⟩

theorem over : Rows.drawsOrdersRow.holds Try.pinned (OpenSpec.ofChange Rows.drawsOrdersSpec) :=
  OpenClaim.holds_of_wide 3 Try.f3 rfl rfl rfl rfl rfl rfl rfl ⟨rfl, rfl, rfl, rfl, rfl⟩ rfl rfl rfl rfl rfl (by kernel_rfl) Try.func3 (by kernel_rfl)
    (of_decide_eq_true (by kernel_rfl)) (by unfold Func.isWrapper; first | (rw [if_pos (by decide +kernel)]; kernel_rfl) | (rw [if_neg (by decide +kernel)]; exact ⟨rfl, rfl⟩))
    (fun os started H enc _ => lifted os started H enc)

theorem proved : Rows.DrawsOrdersSaid := over

end Go.Proofs.Ytmcifbikfjmmfaa.drawsOrders

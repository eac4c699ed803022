/-
  ZoneNames: one reckoning by the kernel, with what is known at the loops' heads, contracts of functions, and facts of arithmetic.
-/
import Derived.Test.YtfifefjbckmfeaaRows
import Derived.Test.YtfifefjbckmfeaaNat
import Derived.WalkKit
import Derived.ProofKit
import Derived.OpenShut
import Derived.ChangeOld
import Derived.Below
import Derived.KernelRfl
import Derived.Lib.SmallJoins
namespace Go.Proofs.Ytfifefjbckmfeaa.zoneNames
open Go.ChangeShapes Go.WideShapes Go.ChangeAt Go.RowKit
open Go.SX
set_option linter.unusedVariables false
set_option linter.unusedSimpArgs false
set_option maxRecDepth 100000
theorem own : ownKnob Try.prog.godebug = none := by kernel_rfl
theorem laidOut : laidOutB Try.prog = true := by kernel_rfl
theorem good : progOk Try.prog = true := by kernel_rfl


noncomputable def ii (e : E) : SV := .int .i64 e
noncomputable def pc0 : List E := i64R [0, 1]
noncomputable def args : List SV := [ii (eV 0), ii (eV 1)]

noncomputable def natl0 : List Nat1 := nats
theorem natl0_ok : ∀ x ∈ natl0, NatOk Try.prog x := nats_ok

set_option maxRecDepth 100000 in
theorem reckoned0 : withTab Try.prog (fun tb => checkAll outTrue (run Try.prog (tb.plus [] [] natl0) 3000 (.call 13 []) .nil (varSt 0 []) SX.one)) = true := by kernel_rfl
noncomputable def natl1 : List Nat1 := closedNat 13 :: natl0
theorem natl1_ok : ∀ x ∈ natl1, NatOk Try.prog x := by
  intro x hx
  rcases List.mem_cons.1 hx with rfl | hx
  · exact closed_of_check good (facts := []) all_nil (anns := []) (plainAnns_ok [] rfl) (nats := natl0) natl0_ok reckoned0
  · exact natl0_ok x hx

namespace m
noncomputable def f0 : E := (.imp (.and (.not (.cmp .lss (.var 1) (.int 0))) (.and (.not (.cmp .lss (.int 2) (.var 1))) (.and (.not (.cmp .lss (.int 9223372036854775807) (.var 1))) (.not (.cmp .lss (.var 1) (.int (-9223372036854775808))))))) (.not (.cmp .lss (.ar .sub .i64 (.int 2) (.var 1)) (.int 0))))
theorem fact0 (ρ : Env) : E.B ρ f0 = true := by
  unfold f0
  simp only [sm_I_int, sm_I_mn, sm_I_mx, sm_I_add_u64, sm_I_sub_u64, sm_I_add_i64, sm_I_sub_i64, sm_I_mul_i64, sm_I_fn6, sm_I_fn7, sm_I_fn8, sm_B_bool, sm_B_eql, sm_B_lss, sm_B_not, sm_B_and, sm_B_imp, sm_B_iff]
  rintro ⟨p0, p1, p2, p3⟩
  try generalize E.I ρ (.var 1) = x0 at *
  obtain ⟨y0, e0, q0, h0⟩ := cs_i64 (2 - x0)
  try simp only [e0] at *
  omega
noncomputable def f1 : E := (.imp (.and (.not (.cmp .lss (.var 1) (.int 0))) (.and (.not (.cmp .lss (.int 9223372036854775807) (.var 1))) (.not (.cmp .lss (.var 1) (.int (-9223372036854775808)))))) (.cmp .lss (.ar .sub .i64 (.int 2) (.var 1)) (.int 3)))
theorem fact1 (ρ : Env) : E.B ρ f1 = true := by
  unfold f1
  simp only [sm_I_int, sm_I_mn, sm_I_mx, sm_I_add_u64, sm_I_sub_u64, sm_I_add_i64, sm_I_sub_i64, sm_I_mul_i64, sm_I_fn6, sm_I_fn7, sm_I_fn8, sm_B_bool, sm_B_eql, sm_B_lss, sm_B_not, sm_B_and, sm_B_imp, sm_B_iff]
  rintro ⟨p0, p1, p2⟩
  try generalize E.I ρ (.var 1) = x0 at *
  obtain ⟨y0, e0, q0, h0⟩ := cs_i64 (2 - x0)
  try simp only [e0] at *
  omega
noncomputable def f2 : E := (.imp (.and (.not (.cmp .lss (.var 1) (.int 0))) (.and (.not (.cmp .lss (.int 2) (.var 1))) (.and (.not (.cmp .eql (.var 1) (.int 1))) (.and (.not (.cmp .eql (.ar .sub .i64 (.int 2) (.var 1)) (.int 0))) (.and (.not (.cmp .lss (.int 9223372036854775807) (.var 1))) (.not (.cmp .lss (.var 1) (.int (-9223372036854775808))))))))) (.cmp .eql (.ar .sub .i64 (.int 2) (.var 1)) (.int 2)))
theorem fact2 (ρ : Env) : E.B ρ f2 = true := by
  unfold f2
  simp only [sm_I_int, sm_I_mn, sm_I_mx, sm_I_add_u64, sm_I_sub_u64, sm_I_add_i64, sm_I_sub_i64, sm_I_mul_i64, sm_I_fn6, sm_I_fn7, sm_I_fn8, sm_B_bool, sm_B_eql, sm_B_lss, sm_B_not, sm_B_and, sm_B_imp, sm_B_iff]
  rintro ⟨p0, p1, p2, p3, p4, p5⟩
  try generalize E.I ρ (.var 1) = x0 at *
  obtain ⟨y0, e0, q0, h0⟩ := cs_i64 (2 - x0)
  try simp only [e0] at *
  omega
noncomputable def f3 : E := (.imp (.and (.cmp .eql (.var 1) (.int 1)) (.and (.not (.cmp .eql (.ar .sub .i64 (.int 2) (.var 1)) (.int 1))) (.and (.not (.cmp .lss (.int 9223372036854775807) (.var 1))) (.not (.cmp .lss (.var 1) (.int (-9223372036854775808))))))) (.cmp .eql (.ar .sub .i64 (.int 2) (.var 1)) (.int 2)))
theorem fact3 (ρ : Env) : E.B ρ f3 = true := by
  unfold f3
  simp only [sm_I_int, sm_I_mn, sm_I_mx, sm_I_add_u64, sm_I_sub_u64, sm_I_add_i64, sm_I_sub_i64, sm_I_mul_i64, sm_I_fn6, sm_I_fn7, sm_I_fn8, sm_B_bool, sm_B_eql, sm_B_lss, sm_B_not, sm_B_and, sm_B_imp, sm_B_iff]
  rintro ⟨p0, p1, p2, p3⟩
  try generalize E.I ρ (.var 1) = x0 at *
  obtain ⟨y0, e0, q0, h0⟩ := cs_i64 (2 - x0)
  try simp only [e0] at *
  omega
noncomputable def f4 : E := (.imp (.and (.cmp .eql (.var 1) (.int 0)) (.and (.not (.cmp .lss (.int 9223372036854775807) (.var 1))) (.not (.cmp .lss (.var 1) (.int (-9223372036854775808)))))) (.cmp .eql (.ar .sub .i64 (.int 2) (.var 1)) (.int 2)))
theorem fact4 (ρ : Env) : E.B ρ f4 = true := by
  unfold f4
  simp only [sm_I_int, sm_I_mn, sm_I_mx, sm_I_add_u64, sm_I_sub_u64, sm_I_add_i64, sm_I_sub_i64, sm_I_mul_i64, sm_I_fn6, sm_I_fn7, sm_I_fn8, sm_B_bool, sm_B_eql, sm_B_lss, sm_B_not, sm_B_and, sm_B_imp, sm_B_iff]
  rintro ⟨p0, p1, p2⟩
  try generalize E.I ρ (.var 1) = x0 at *
  obtain ⟨y0, e0, q0, h0⟩ := cs_i64 (2 - x0)
  try simp only [e0] at *
  omega
noncomputable def facts : List E := [f0, f1, f2, f3, f4]
theorem facts_ok : ∀ e ∈ facts, ∀ ρ : Env, E.B ρ e = true := (all_cons fact0 (all_cons fact1 (all_cons fact2 (all_cons fact3 (all_cons fact4 all_nil)))))
end m
set_option maxRecDepth 100000 in
theorem reckoned : withTab Try.prog (fun tb => checkAll outTrue (run Try.prog (tb.plus m.facts [] natl1) 3000 (.call 3 args) .nil (varSt 2 pc0) SX.one)) = true := by kernel_rfl

set_option maxRecDepth 100000 in
theorem walk {H : Type} (W : World) (base : Nat) (enc : TypeId × Value → H) (v0 : Value) (d0 : DataW H) (p0 : List MemPlace) (v1 : Value) (d1 : DataW H) (p1 : List MemPlace)
    (o0 : Value.okWide Try.prog W .any base 3 v0) (h0 : DataW.Trod enc Try.prog W 0 (fun _ => true) true 3 v0 d0 p0)
    (o1 : Value.okWide Try.prog W .any base 3 v1) (h1 : DataW.Trod enc Try.prog W 0 (fun _ => true) true 3 v1 d1 p1) :
    Calls Try.prog 3 #[v0, v1] W fun e W' => e = .returned (.bool true) ∧ Below W.heap.size W W' := by
  obtain ⟨x0, rfl, _, _, w0⟩ := open_int Try.underlying3 o0 h0
  have r0 := wf_i64 w0
  obtain ⟨x1, rfl, _, _, w1⟩ := open_int Try.underlying3 o1 h1
  have r1 := wf_i64 w1

  refine true_of_check2 good (facts := m.facts) m.facts_ok (anns := []) (plainAnns_ok _ (by kernel_rfl)) natl1_ok (vs := [.int x0, .int x1]) (pc := pc0) reckoned ?_ W ⟨trivial, ⟨trivial, trivial⟩⟩
  unfold pc0
  try simp only [u64R, i64R, List.cons_append, List.nil_append]
  repeat' (refine pc_cons ?_ ?_)
  all_goals first
    | exact pc_nil
    | (first | fail | skip; done)
    | (simp only [eLe, eLt, eV, Env.of, sm_I_int, sm_I_var, sm_B_lss, sm_B_not, getD_cons_zero, getD_cons_succ, toI_int]; omega)

set_option maxRecDepth 100000 in
theorem lifted (os : Os) (started : os.Started) (H : Type) (enc : TypeId × Value → H) :
    ReturnsInHanded {} Try.checked os 3 .any (Rows.zoneNamesSpec.pre6 enc Try.prog Try.f3 Rows.zoneNamesRow.domain false) (Rows.zoneNamesSpec.post enc Try.prog Try.f3 false true false false) := by
  refine returnsInHanded_of_change (C := Try.checked) own started (by kernel_rfl) Try.func3
    (ChangeSpec.witness6 (enc := enc) (C := Try.checked) false ⟨#[], #[.int .i64 0, .int .i64 0], []⟩ 8 (by kernel_rfl) (by kernel_rfl) (by kernel_rfl) (by kernel_rfl)) ?_
  intro W base args ds gs before hval0 hW hcnd _
  have hval : ∀ (j : Nat) t v, Try.f3.params[j]? = some t → args[j]? = some v → Value.okWide Try.prog W .any base t v := hval0
  have hW' := hW
  obtain ⟨p, q, hA0, hV, rfl, hfz, hnd⟩ := hW
  have hA : DataW.TrodAll enc Try.prog W 0 (fun _ => true) true Try.f3.params.toList args.toList ds p := hA0
  rw [Try.params3] at hA hval
  obtain ⟨v0, vs0, d0, ds0, p0, q0, hargs, rfl, rfl, h0, r0⟩ := trodAll_cons hA
  obtain ⟨v1, vs1, d1, ds1, p1, q1, rfl, rfl, rfl, h1, r1⟩ := trodAll_cons r0
  obtain ⟨rfl, rfl, rfl⟩ := trodAll_nil r1
  obtain rfl : args = #[v0, v1] := by cases args; simp_all
  obtain ⟨rfl, rfl⟩ := trodVars_none hV
  have lt0 : ∀ x ∈ p0, x.block < W.heap.size := by obtain ⟨m, hm⟩ := h0; exact DataW.trod_lt m _ _ _ hm
  have lt1 : ∀ x ∈ p1, x.block < W.heap.size := by obtain ⟨m, hm⟩ := h1; exact DataW.trod_lt m _ _ _ hm
  have o0 := hval 0 3 v0 rfl rfl
  have o1 := hval 1 3 v1 rfl rfl
  clear hA0 hval0
  refine (walk W base enc v0 d0 p0 v1 d1 p1 o0 h0 o1 h1).mono fun e W' ⟨he, bel⟩ => ?_
  subst he
  exact ⟨_, rfl, _, _, _, [], _, [], hW', trodAll_mk1 (shut_bool Try.underlying4 _), (trodAll_cons_mk (Below.trod laidOut (by kernel_rfl) (of_decide_eq_true (by kernel_rfl)) h0 bel lt0) (trodAll_cons_mk (Below.trod laidOut (by kernel_rfl) (of_decide_eq_true (by kernel_rfl)) h1 bel lt1) trodAll_mk0)), rfl, bel.frame _, fun h => by cases h⟩

theorem over : Rows.zoneNamesRow.holds Try.pinned (OpenSpec.ofChange Rows.zoneNamesSpec) :=
  OpenClaim.holds_of_wide 3 Try.f3 rfl rfl rfl rfl rfl rfl rfl ⟨rfl, rfl, rfl, rfl, rfl⟩ rfl rfl rfl rfl rfl (by kernel_rfl) Try.func3 (by kernel_rfl)
    (of_decide_eq_true (by kernel_rfl)) (by unfold Func.isWrapper; first | (rw [if_pos (by decide +kernel)]; kernel_rfl) | (rw [if_neg (by decide +kernel)]; exact ⟨rfl, rfl⟩))
    (fun os started H enc _ => lifted os started H enc)

theorem proved : Rows.ZoneNamesSaid := over

end Go.Proofs.Ytfifefjbckmfeaa.zoneNames

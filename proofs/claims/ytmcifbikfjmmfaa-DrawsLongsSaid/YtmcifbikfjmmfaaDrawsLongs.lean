/-
  DrawsLongs: one reckoning by the kernel, with what is known at the loops' heads, contracts of functions, and facts of arithmetic.
-/
import Derived.Test.YtmcifbikfjmmfaaRows
import Derived.Test.YtmcifbikfjmmfaaSXd
import Derived.WalkKit
import Derived.ProofKit
import Derived.OpenShut
import Derived.ChangeOld
import Derived.Below
import Derived.KernelRfl
import Derived.Lib.SmallJoins
import Derived.Test.YtmcifbikfjmmfaaTheory
namespace Go.Proofs.Ytmcifbikfjmmfaa.drawsLongs
open Go.ChangeShapes Go.WideShapes Go.ChangeAt Go.RowKit
open Go.SX
set_option linter.unusedVariables false
set_option linter.unusedSimpArgs false
set_option maxRecDepth 100000
theorem own : ownKnob Try.prog.godebug = none := by kernel_rfl
theorem laidOut : laidOutB Try.prog = true := by kernel_rfl
theorem good : progOk Try.prog = true := by kernel_rfl


noncomputable def ii (e : E) : SV := .int .i64 e
noncomputable def gone : Blk := ⟨true, .gone⟩
noncomputable def zer (v n : E) : E := .fn 100 (.pr v n)
noncomputable def at0 (b : Nat) : SV := .ptr b ⟨0, 0, .int 0⟩
noncomputable def pcS : List E := [zer (eV 1) (eV 0), zer (eV 2) (eV 0), eLe (.int 2) (eV 0), eLe (eV 0) (.int 65536)]
noncomputable def bl1 : Blk := ⟨true, .flat [.int .u64] (eV 1) (eV 0) (eV 0) 22⟩
noncomputable def bl2 : Blk := ⟨true, .flat [.int .i64] (eV 2) (eV 0) (eV 0) 3⟩
noncomputable def drw (u : E) : Blk := ⟨true, .cells [.bool (.bool true), .nslice 1 (eV 0) (eV 0), ii u] (.int 3) 60⟩
noncomputable def spS : Pact := ⟨10, [at0 0, .nslice 2 (eV 0) (eV 0)], ⟨3, 3, heapL [drw (.int 0), bl1, bl2], pcS⟩,
  [(.tup [.nslice 3 (eV 0) (eV 4), ii (.int 0)], ⟨6, 4, heapL [drw (eV 5), bl1, bl2, ⟨true, .flat [.int .i64] (eV 3) (eV 0) (eV 4) 3⟩], [zer (eV 3) (eV 0), .cmp .eql (.fn 6 (.pr (eV 5) (.int 1))) (eV 0)]⟩)]⟩
noncomputable def t1 : Tmpl := ⟨tmSlots 51 [(0, at0 0), (1, .nslice 2 (eV 0) (eV 0)), (8, .nslice 4 (eV 0) (eV 11)), (9, ii (eV 8))], ⟨12, 5, heapL [drw (eV 10), bl1, bl2, gone, ⟨true, .flat [.int .i64] (eV 9) (eV 0) (eV 11) 3⟩],
   pcS ++ [zer (eV 9) (eV 0), eLe (.int 0) (eV 8), eLt (eV 8) (eV 0), eLe (.int 0) (eV 10), .cmp .eql (.fn 6 (.pr (eV 10) (.fn 6 (.pr (eV 8) (.int 1))))) (eV 0)]⟩, eV 8⟩
noncomputable def fl (v n c : E) : Blk := ⟨true, .flat [.int .i64] v n c 3⟩
noncomputable def pcM : List E := [zer (eV 2) (eV 0), zer (eV 3) (eV 0), eLe (.int 2) (eV 0), eLe (eV 0) (.int 65536)]
noncomputable def spM : Pact := ⟨22, [.nslice 0 (eV 0) (eV 1), .nslice 1 (eV 0) (eV 0)], ⟨4, 2, heapL [fl (eV 2) (eV 0) (eV 1), fl (eV 3) (eV 0) (eV 0)], pcM⟩,
  [(.bool (.bool true), ⟨4, 2, heapL [fl (eV 2) (eV 0) (eV 1), fl (eV 3) (eV 0) (eV 0)], []⟩)]⟩
noncomputable def t2 : Tmpl := ⟨tmSlots 26 [(0, .nslice 0 (eV 0) (eV 1)), (1, .nslice 1 (eV 0) (eV 0)), (5, ii (eV 4))], ⟨5, 2, heapL [fl (eV 2) (eV 0) (eV 1), fl (eV 3) (eV 0) (eV 0)], pcM ++ [eLe (.int 0) (eV 4), eLe (eV 4) (eV 0)]⟩, .fn 7 (.pr (eV 0) (eV 4))⟩
noncomputable def annM : Ann := ⟨22, 0, [t2], none⟩
noncomputable def pc0 : List E := i64R [0] ++ u64R [1]
noncomputable def args : List SV := [ii (eV 0), .int .u64 (eV 1)]
noncomputable def annS : Ann := ⟨10, 0, [t1], none⟩

noncomputable def natl0 : List Nat1 := []
theorem natl0_ok : ∀ x ∈ natl0, NatOk Try.prog x := (fun x hx => by cases hx)

set_option maxRecDepth 100000 in
theorem reckoned0 : withTab Try.prog (fun tb => checkAll outTrue (run Try.prog (tb.plus [] [] natl0) 3000 (.call 8 []) .nil (varSt 0 []) SX.one)) = true := by kernel_rfl
noncomputable def natl1 : List Nat1 := closedNat 8 :: natl0
theorem natl1_ok : ∀ x ∈ natl1, NatOk Try.prog x := by
  intro x hx
  rcases List.mem_cons.1 hx with rfl | hx
  · exact closed_of_check good (facts := []) all_nil (anns := []) (plainAnns_ok [] rfl) (nats := natl0) natl0_ok reckoned0
  · exact natl0_ok x hx

namespace p0
noncomputable def f0 : E := (.imp (.and (.not (.cmp .lss (.int 65536) (.var 0))) (.and (.not (.cmp .lss (.var 0) (.int 2))) (.and (.not (.cmp .lss (.int 65536) (.var 0))) (.not (.cmp .lss (.var 0) (.int 2)))))) (.not (.cmp .lss (.ar .sub .i64 (.var 0) (.int 1)) (.int 0))))
theorem fact0 (ρ : Env) : E.B ρ f0 = true := by
  unfold f0
  simp only [sm_I_int, sm_I_mn, sm_I_mx, sm_I_add_u64, sm_I_sub_u64, sm_I_add_i64, sm_I_sub_i64, sm_I_mul_i64, sm_I_fn6, sm_I_fn7, sm_I_fn8, sm_B_bool, sm_B_eql, sm_B_lss, sm_B_not, sm_B_and, sm_B_imp, sm_B_iff]
  rintro ⟨p0, p1, p2, p3⟩
  try generalize E.I ρ (.var 0) = x0 at *
  obtain ⟨y0, e0, q0, h0⟩ := cs_i64 (x0 - 1)
  try simp only [e0] at *
  omega
noncomputable def f1 : E := (.imp (.and (.not (.cmp .lss (.int 65536) (.var 0))) (.and (.not (.cmp .lss (.var 0) (.int 2))) (.and (.not (.cmp .lss (.int 65536) (.var 0))) (.not (.cmp .lss (.var 0) (.int 2)))))) (.not (.cmp .lss (.ar .sub .i64 (.var 0) (.int 0)) (.ar .sub .i64 (.var 0) (.int 1)))))
theorem fact1 (ρ : Env) : E.B ρ f1 = true := by
  unfold f1
  simp only [sm_I_int, sm_I_mn, sm_I_mx, sm_I_add_u64, sm_I_sub_u64, sm_I_add_i64, sm_I_sub_i64, sm_I_mul_i64, sm_I_fn6, sm_I_fn7, sm_I_fn8, sm_B_bool, sm_B_eql, sm_B_lss, sm_B_not, sm_B_and, sm_B_imp, sm_B_iff]
  rintro ⟨p0, p1, p2, p3⟩
  try generalize E.I ρ (.var 0) = x0 at *
  obtain ⟨y0, e0, q0, h0⟩ := cs_i64 (x0 - 0)
  try simp only [e0] at *
  obtain ⟨y1, e1, q1, h1⟩ := cs_i64 (x0 - 1)
  try simp only [e1] at *
  omega
noncomputable def f2 : E := (.imp (.and (.not (.cmp .lss (.int 65536) (.var 0))) (.and (.not (.cmp .lss (.var 0) (.int 2))) (.and (.not (.cmp .lss (.int 65536) (.var 0))) (.not (.cmp .lss (.var 0) (.int 2)))))) (.cmp .lss (.ar .sub .i64 (.var 0) (.int 1)) (.var 0)))
theorem fact2 (ρ : Env) : E.B ρ f2 = true := by
  unfold f2
  simp only [sm_I_int, sm_I_mn, sm_I_mx, sm_I_add_u64, sm_I_sub_u64, sm_I_add_i64, sm_I_sub_i64, sm_I_mul_i64, sm_I_fn6, sm_I_fn7, sm_I_fn8, sm_B_bool, sm_B_eql, sm_B_lss, sm_B_not, sm_B_and, sm_B_imp, sm_B_iff]
  rintro ⟨p0, p1, p2, p3⟩
  try generalize E.I ρ (.var 0) = x0 at *
  obtain ⟨y0, e0, q0, h0⟩ := cs_i64 (x0 - 1)
  try simp only [e0] at *
  omega
noncomputable def f3 : E := (.imp (.and (.not (.cmp .lss (.int 65536) (.var 0))) (.and (.not (.cmp .lss (.var 0) (.int 2))) (.and (.not (.cmp .lss (.int 65536) (.var 0))) (.not (.cmp .lss (.var 0) (.int 2)))))) (.cmp .eql (.fn 6 (.pr (.int 0) (.fn 6 (.pr (.ar .sub .i64 (.var 0) (.int 1)) (.int 1))))) (.var 0)))
theorem fact3 (ρ : Env) : E.B ρ f3 = true := by
  unfold f3
  simp only [sm_I_int, sm_I_mn, sm_I_mx, sm_I_add_u64, sm_I_sub_u64, sm_I_add_i64, sm_I_sub_i64, sm_I_mul_i64, sm_I_fn6, sm_I_fn7, sm_I_fn8, sm_B_bool, sm_B_eql, sm_B_lss, sm_B_not, sm_B_and, sm_B_imp, sm_B_iff]
  rintro ⟨p0, p1, p2, p3⟩
  try generalize E.I ρ (.var 0) = x0 at *
  obtain ⟨y0, e0, q0, h0⟩ := cs_i64 (x0 - 1)
  try simp only [e0] at *
  omega
noncomputable def f4 : E := (.imp (.and (.cmp .eql (.fn 6 (.pr (.var 10) (.fn 6 (.pr (.var 8) (.int 1))))) (.var 0)) (.and (.not (.cmp .lss (.var 10) (.int 0))) (.and (.cmp .lss (.var 8) (.var 0)) (.and (.not (.cmp .lss (.var 8) (.int 0))) (.and (.not (.cmp .lss (.int 65536) (.var 0))) (.and (.not (.cmp .lss (.var 0) (.int 2))) (.and (.not (.cmp .lss (.int 65536) (.var 0))) (.not (.cmp .lss (.var 0) (.int 2)))))))))) (.cmp .lss (.var 10) (.var 0)))
theorem fact4 (ρ : Env) : E.B ρ f4 = true := by
  unfold f4
  simp only [sm_I_int, sm_I_mn, sm_I_mx, sm_I_add_u64, sm_I_sub_u64, sm_I_add_i64, sm_I_sub_i64, sm_I_mul_i64, sm_I_fn6, sm_I_fn7, sm_I_fn8, sm_B_bool, sm_B_eql, sm_B_lss, sm_B_not, sm_B_and, sm_B_imp, sm_B_iff]
  rintro ⟨p0, p1, p2, p3, p4, p5, p6, p7⟩
  try generalize E.I ρ (.var 10) = x0 at *
  try generalize E.I ρ (.var 8) = x1 at *
  try generalize E.I ρ (.var 0) = x2 at *
  omega
noncomputable def f5 : E := (.imp (.and (.not (.cmp .lss (.int 0) (.var 8))) (.and (.cmp .eql (.fn 6 (.pr (.var 10) (.fn 6 (.pr (.var 8) (.int 1))))) (.var 0)) (.and (.not (.cmp .lss (.var 10) (.int 0))) (.and (.cmp .lss (.var 8) (.var 0)) (.and (.not (.cmp .lss (.var 8) (.int 0))) (.and (.not (.cmp .lss (.int 65536) (.var 0))) (.and (.not (.cmp .lss (.var 0) (.int 2))) (.and (.not (.cmp .lss (.int 65536) (.var 0))) (.not (.cmp .lss (.var 0) (.int 2))))))))))) (.cmp .eql (.fn 6 (.pr (.var 10) (.int 1))) (.var 0)))
theorem fact5 (ρ : Env) : E.B ρ f5 = true := by
  unfold f5
  simp only [sm_I_int, sm_I_mn, sm_I_mx, sm_I_add_u64, sm_I_sub_u64, sm_I_add_i64, sm_I_sub_i64, sm_I_mul_i64, sm_I_fn6, sm_I_fn7, sm_I_fn8, sm_B_bool, sm_B_eql, sm_B_lss, sm_B_not, sm_B_and, sm_B_imp, sm_B_iff]
  rintro ⟨p0, p1, p2, p3, p4, p5, p6, p7, p8⟩
  try generalize E.I ρ (.var 8) = x0 at *
  try generalize E.I ρ (.var 10) = x1 at *
  try generalize E.I ρ (.var 0) = x2 at *
  omega
noncomputable def f6 : E := (.imp (.and (.cmp .eql (.fn 6 (.pr (.var 10) (.fn 6 (.pr (.var 8) (.int 1))))) (.var 0)) (.and (.not (.cmp .lss (.var 10) (.int 0))) (.and (.cmp .lss (.var 8) (.var 0)) (.and (.not (.cmp .lss (.var 8) (.int 0))) (.and (.not (.cmp .lss (.int 65536) (.var 0))) (.and (.not (.cmp .lss (.var 0) (.int 2))) (.and (.not (.cmp .lss (.int 65536) (.var 0))) (.not (.cmp .lss (.var 0) (.int 2)))))))))) (.not (.cmp .eql (.wr .u64 (.ar .add .i64 (.var 8) (.int 1))) (.int 0))))
theorem fact6 (ρ : Env) : E.B ρ f6 = true := by
  unfold f6
  simp only [sm_I_int, sm_I_fn6, sm_I_fn7, sm_I_fn8, sm_B_bool, sm_B_eql, sm_B_lss, sm_B_not, sm_B_and, sm_B_imp, sm_I_add_i64, sm_I_sub_i64, sm_I_rem, sm_I_wr, sm_I_mx, sm_I_mn, dz100, dz1, dz1d, dz2, dz5]
  rintro ⟨p0, p1, p2, p3, p4, p5, p6, p7⟩
  try generalize E.I ρ (.var 10) = a0 at *
  try generalize E.I ρ (.var 8) = a1 at *
  try generalize E.I ρ (.var 0) = a2 at *
  obtain ⟨a3, ea3, qa3⟩ := cs_i64 (a1 + (1))
  try simp only [ea3] at *
  obtain ⟨a4, ea4, qa4⟩ := cs_u64 a3
  try simp only [ea4] at *
  all_goals first
    | omega
    | rfl
noncomputable def f7 : E := (.imp (.and (.fn 100 (.pr (.var 9) (.var 0))) (.and (.fn 100 (.pr (.var 2) (.var 0))) (.and (.fn 100 (.pr (.var 1) (.var 0))) (.and (.cmp .lss (.int 0) (.var 8)) (.and (.cmp .eql (.fn 6 (.pr (.var 10) (.fn 6 (.pr (.var 8) (.int 1))))) (.var 0)) (.and (.not (.cmp .lss (.var 10) (.int 0))) (.and (.cmp .lss (.var 8) (.var 0)) (.and (.not (.cmp .lss (.var 8) (.int 0))) (.and (.not (.cmp .lss (.int 65536) (.var 0))) (.and (.not (.cmp .lss (.var 0) (.int 2))) (.and (.not (.cmp .lss (.int 65536) (.var 0))) (.not (.cmp .lss (.var 0) (.int 2)))))))))))))) (.not (.cmp .lss (.wr .i64 (.ar .rem .u64 (.fn 1 (.pr (.var 1) (.var 10))) (.wr .u64 (.ar .add .i64 (.var 8) (.int 1))))) (.int 0))))
theorem fact7 (ρ : Env) : E.B ρ f7 = true := by
  unfold f7
  simp only [sm_I_int, sm_I_fn6, sm_I_fn7, sm_I_fn8, sm_B_bool, sm_B_eql, sm_B_lss, sm_B_not, sm_B_and, sm_B_imp, sm_I_add_i64, sm_I_sub_i64, sm_I_rem, sm_I_wr, sm_I_mx, sm_I_mn, dz100, dz1, dz1d, dz2, dz5]
  rintro ⟨p0, p1, p2, p3, p4, p5, p6, p7, p8, p9, p10, p11⟩
  have g0 := zerL_get p0
  have g1 := zerL_get p1
  have g2 := zerL_get p2
  try simp only [g0, g1, g2, U.toI] at *
  try generalize E.I ρ (.var 8) = a0 at *
  try generalize E.I ρ (.var 10) = a1 at *
  try generalize E.I ρ (.var 0) = a2 at *
  obtain ⟨a3, ea3, qa3⟩ := cs_i64 (a0 + (1))
  try simp only [ea3] at *
  obtain ⟨a4, ea4, qa4⟩ := cs_u64 a3
  try simp only [ea4] at *
  obtain ⟨a5, ea5, qa5⟩ := cs_rem (0) a4
  try simp only [ea5] at *
  obtain ⟨a6, ea6, qa6⟩ := cs_i64 a5
  try simp only [ea6] at *
  all_goals first
    | omega
    | rfl
noncomputable def f8 : E := (.imp (.and (.fn 100 (.pr (.var 1) (.var 0))) (.and (.cmp .eql (.fn 6 (.pr (.var 10) (.fn 6 (.pr (.var 8) (.int 1))))) (.var 0)) (.and (.not (.cmp .lss (.var 10) (.int 0))) (.and (.cmp .lss (.var 8) (.var 0)) (.and (.not (.cmp .lss (.var 8) (.int 0))) (.and (.not (.cmp .lss (.int 65536) (.var 0))) (.and (.not (.cmp .lss (.var 0) (.int 2))) (.and (.not (.cmp .lss (.int 65536) (.var 0))) (.not (.cmp .lss (.var 0) (.int 2))))))))))) (.cmp .lss (.wr .i64 (.ar .rem .u64 (.fn 1 (.pr (.var 1) (.var 10))) (.wr .u64 (.ar .add .i64 (.var 8) (.int 1))))) (.var 0)))
theorem fact8 (ρ : Env) : E.B ρ f8 = true := by
  unfold f8
  simp only [sm_I_int, sm_I_fn6, sm_I_fn7, sm_I_fn8, sm_B_bool, sm_B_eql, sm_B_lss, sm_B_not, sm_B_and, sm_B_imp, sm_I_add_i64, sm_I_sub_i64, sm_I_rem, sm_I_wr, sm_I_mx, sm_I_mn, dz100, dz1, dz1d, dz2, dz5]
  rintro ⟨p0, p1, p2, p3, p4, p5, p6, p7, p8⟩
  have g0 := zerL_get p0
  try simp only [g0, U.toI] at *
  try generalize E.I ρ (.var 10) = a0 at *
  try generalize E.I ρ (.var 8) = a1 at *
  try generalize E.I ρ (.var 0) = a2 at *
  obtain ⟨a3, ea3, qa3⟩ := cs_i64 (a1 + (1))
  try simp only [ea3] at *
  obtain ⟨a4, ea4, qa4⟩ := cs_u64 a3
  try simp only [ea4] at *
  obtain ⟨a5, ea5, qa5⟩ := cs_rem (0) a4
  try simp only [ea5] at *
  obtain ⟨a6, ea6, qa6⟩ := cs_i64 a5
  try simp only [ea6] at *
  all_goals first
    | omega
    | rfl
noncomputable def f9 : E := (.imp (.and (.cmp .lss (.int 0) (.var 8)) (.and (.cmp .eql (.fn 6 (.pr (.var 10) (.fn 6 (.pr (.var 8) (.int 1))))) (.var 0)) (.and (.not (.cmp .lss (.var 10) (.int 0))) (.and (.cmp .lss (.var 8) (.var 0)) (.and (.not (.cmp .lss (.var 8) (.int 0))) (.and (.fn 100 (.pr (.var 9) (.var 0))) (.and (.not (.cmp .lss (.int 65536) (.var 0))) (.and (.not (.cmp .lss (.var 0) (.int 2))) (.and (.fn 100 (.pr (.var 2) (.var 0))) (.and (.fn 100 (.pr (.var 1) (.var 0))) (.and (.not (.cmp .lss (.int 65536) (.var 0))) (.and (.not (.cmp .lss (.var 0) (.int 2))) (.and (.fn 100 (.pr (.var 2) (.var 0))) (.fn 100 (.pr (.var 1) (.var 0)))))))))))))))) (.fn 100 (.pr (.fn 2 (.pr (.fn 2 (.pr (.var 9) (.pr (.var 8) (.fn 1 (.pr (.var 9) (.wr .i64 (.ar .rem .u64 (.fn 1 (.pr (.var 1) (.var 10))) (.wr .u64 (.ar .add .i64 (.var 8) (.int 1)))))))))) (.pr (.wr .i64 (.ar .rem .u64 (.fn 1 (.pr (.var 1) (.var 10))) (.wr .u64 (.ar .add .i64 (.var 8) (.int 1))))) (.fn 1 (.pr (.var 9) (.var 8)))))) (.var 0))))
theorem fact9 (ρ : Env) : E.B ρ f9 = true := by
  unfold f9
  simp only [sm_I_int, sm_I_fn6, sm_I_fn7, sm_I_fn8, sm_B_bool, sm_B_eql, sm_B_lss, sm_B_not, sm_B_and, sm_B_imp, sm_I_add_i64, sm_I_sub_i64, sm_I_rem, sm_I_wr, sm_I_mx, sm_I_mn, dz100, dz1, dz1d, dz2, dz5]
  rintro ⟨p0, p1, p2, p3, p4, p5, p6, p7, p8, p9, p10, p11, p12, p13⟩
  exact zerL_set (zerL_set p5 _ (zerL_get p5 _)) _ (zerL_get p5 _)
noncomputable def f10 : E := (.imp (.and (.cmp .lss (.int 0) (.var 8)) (.and (.cmp .eql (.fn 6 (.pr (.var 10) (.fn 6 (.pr (.var 8) (.int 1))))) (.var 0)) (.and (.not (.cmp .lss (.var 10) (.int 0))) (.and (.cmp .lss (.var 8) (.var 0)) (.and (.not (.cmp .lss (.var 8) (.int 0))) (.and (.not (.cmp .lss (.int 65536) (.var 0))) (.and (.not (.cmp .lss (.var 0) (.int 2))) (.and (.not (.cmp .lss (.int 65536) (.var 0))) (.not (.cmp .lss (.var 0) (.int 2))))))))))) (.not (.cmp .lss (.ar .sub .i64 (.var 8) (.int 1)) (.int 0))))
theorem fact10 (ρ : Env) : E.B ρ f10 = true := by
  unfold f10
  simp only [sm_I_int, sm_I_mn, sm_I_mx, sm_I_add_u64, sm_I_sub_u64, sm_I_add_i64, sm_I_sub_i64, sm_I_mul_i64, sm_I_fn6, sm_I_fn7, sm_I_fn8, sm_B_bool, sm_B_eql, sm_B_lss, sm_B_not, sm_B_and, sm_B_imp, sm_B_iff]
  rintro ⟨p0, p1, p2, p3, p4, p5, p6, p7, p8⟩
  try generalize E.I ρ (.var 8) = x0 at *
  try generalize E.I ρ (.var 10) = x1 at *
  try generalize E.I ρ (.var 0) = x2 at *
  obtain ⟨y0, e0, q0, h0⟩ := cs_i64 (x0 - 1)
  try simp only [e0] at *
  omega
noncomputable def f11 : E := (.imp (.and (.cmp .eql (.fn 6 (.pr (.var 10) (.fn 6 (.pr (.var 8) (.int 1))))) (.var 0)) (.and (.not (.cmp .lss (.var 10) (.int 0))) (.and (.cmp .lss (.var 8) (.var 0)) (.and (.not (.cmp .lss (.var 8) (.int 0))) (.and (.not (.cmp .lss (.int 65536) (.var 0))) (.and (.not (.cmp .lss (.var 0) (.int 2))) (.and (.not (.cmp .lss (.int 65536) (.var 0))) (.not (.cmp .lss (.var 0) (.int 2)))))))))) (.cmp .lss (.ar .sub .i64 (.var 8) (.int 1)) (.var 0)))
theorem fact11 (ρ : Env) : E.B ρ f11 = true := by
  unfold f11
  simp only [sm_I_int, sm_I_mn, sm_I_mx, sm_I_add_u64, sm_I_sub_u64, sm_I_add_i64, sm_I_sub_i64, sm_I_mul_i64, sm_I_fn6, sm_I_fn7, sm_I_fn8, sm_B_bool, sm_B_eql, sm_B_lss, sm_B_not, sm_B_and, sm_B_imp, sm_B_iff]
  rintro ⟨p0, p1, p2, p3, p4, p5, p6, p7⟩
  try generalize E.I ρ (.var 10) = x0 at *
  try generalize E.I ρ (.var 8) = x1 at *
  try generalize E.I ρ (.var 0) = x2 at *
  obtain ⟨y0, e0, q0, h0⟩ := cs_i64 (x1 - 1)
  try simp only [e0] at *
  omega
noncomputable def f12 : E := (.imp (.and (.cmp .eql (.fn 6 (.pr (.var 10) (.fn 6 (.pr (.var 8) (.int 1))))) (.var 0)) (.and (.not (.cmp .lss (.var 10) (.int 0))) (.and (.cmp .lss (.var 8) (.var 0)) (.and (.not (.cmp .lss (.var 8) (.int 0))) (.and (.not (.cmp .lss (.int 65536) (.var 0))) (.and (.not (.cmp .lss (.var 0) (.int 2))) (.and (.not (.cmp .lss (.int 65536) (.var 0))) (.not (.cmp .lss (.var 0) (.int 2)))))))))) (.not (.cmp .lss (.ar .add .i64 (.var 10) (.int 1)) (.int 0))))
theorem fact12 (ρ : Env) : E.B ρ f12 = true := by
  unfold f12
  simp only [sm_I_int, sm_I_mn, sm_I_mx, sm_I_add_u64, sm_I_sub_u64, sm_I_add_i64, sm_I_sub_i64, sm_I_mul_i64, sm_I_fn6, sm_I_fn7, sm_I_fn8, sm_B_bool, sm_B_eql, sm_B_lss, sm_B_not, sm_B_and, sm_B_imp, sm_B_iff]
  rintro ⟨p0, p1, p2, p3, p4, p5, p6, p7⟩
  try generalize E.I ρ (.var 10) = x0 at *
  try generalize E.I ρ (.var 8) = x1 at *
  try generalize E.I ρ (.var 0) = x2 at *
  obtain ⟨y0, e0, q0, h0⟩ := cs_i64 (x0 + 1)
  try simp only [e0] at *
  omega
noncomputable def f13 : E := (.imp (.and (.cmp .eql (.fn 6 (.pr (.var 10) (.fn 6 (.pr (.var 8) (.int 1))))) (.var 0)) (.and (.not (.cmp .lss (.var 10) (.int 0))) (.and (.cmp .lss (.var 8) (.var 0)) (.and (.not (.cmp .lss (.var 8) (.int 0))) (.and (.not (.cmp .lss (.int 65536) (.var 0))) (.and (.not (.cmp .lss (.var 0) (.int 2))) (.and (.not (.cmp .lss (.int 65536) (.var 0))) (.not (.cmp .lss (.var 0) (.int 2)))))))))) (.cmp .eql (.fn 6 (.pr (.ar .add .i64 (.var 10) (.int 1)) (.fn 6 (.pr (.ar .sub .i64 (.var 8) (.int 1)) (.int 1))))) (.var 0)))
theorem fact13 (ρ : Env) : E.B ρ f13 = true := by
  unfold f13
  simp only [sm_I_int, sm_I_mn, sm_I_mx, sm_I_add_u64, sm_I_sub_u64, sm_I_add_i64, sm_I_sub_i64, sm_I_mul_i64, sm_I_fn6, sm_I_fn7, sm_I_fn8, sm_B_bool, sm_B_eql, sm_B_lss, sm_B_not, sm_B_and, sm_B_imp, sm_B_iff]
  rintro ⟨p0, p1, p2, p3, p4, p5, p6, p7⟩
  try generalize E.I ρ (.var 10) = x0 at *
  try generalize E.I ρ (.var 8) = x1 at *
  try generalize E.I ρ (.var 0) = x2 at *
  obtain ⟨y0, e0, q0, h0⟩ := cs_i64 (x0 + 1)
  try simp only [e0] at *
  obtain ⟨y1, e1, q1, h1⟩ := cs_i64 (x1 - 1)
  try simp only [e1] at *
  omega
noncomputable def f14 : E := (.imp (.and (.cmp .eql (.fn 6 (.pr (.var 10) (.fn 6 (.pr (.var 8) (.int 1))))) (.var 0)) (.and (.not (.cmp .lss (.var 10) (.int 0))) (.and (.cmp .lss (.var 8) (.var 0)) (.and (.not (.cmp .lss (.var 8) (.int 0))) (.and (.not (.cmp .lss (.int 65536) (.var 0))) (.and (.not (.cmp .lss (.var 0) (.int 2))) (.and (.not (.cmp .lss (.int 65536) (.var 0))) (.not (.cmp .lss (.var 0) (.int 2)))))))))) (.cmp .lss (.ar .sub .i64 (.var 8) (.int 1)) (.var 8)))
theorem fact14 (ρ : Env) : E.B ρ f14 = true := by
  unfold f14
  simp only [sm_I_int, sm_I_mn, sm_I_mx, sm_I_add_u64, sm_I_sub_u64, sm_I_add_i64, sm_I_sub_i64, sm_I_mul_i64, sm_I_fn6, sm_I_fn7, sm_I_fn8, sm_B_bool, sm_B_eql, sm_B_lss, sm_B_not, sm_B_and, sm_B_imp, sm_B_iff]
  rintro ⟨p0, p1, p2, p3, p4, p5, p6, p7⟩
  try generalize E.I ρ (.var 10) = x0 at *
  try generalize E.I ρ (.var 8) = x1 at *
  try generalize E.I ρ (.var 0) = x2 at *
  obtain ⟨y0, e0, q0, h0⟩ := cs_i64 (x1 - 1)
  try simp only [e0] at *
  omega
noncomputable def facts : List E := [f0, f1, f2, f3, f4, f5, f6, f7, f8, f9, f10, f11, f12, f13, f14]
theorem facts_ok : ∀ e ∈ facts, ∀ ρ : Env, E.B ρ e = true := (all_cons fact0 (all_cons fact1 (all_cons fact2 (all_cons fact3 (all_cons fact4 (all_cons fact5 (all_cons fact6 (all_cons fact7 (all_cons fact8 (all_cons fact9 (all_cons fact10 (all_cons fact11 (all_cons fact12 (all_cons fact13 (all_cons fact14 all_nil)))))))))))))))
end p0
set_option maxRecDepth 100000 in
theorem spec0_0 : NatOk Try.prog (specNat (spS)) :=
  spec_of_check good (facts := p0.facts) p0.facts_ok (anns := [annS]) (plainAnns_ok _ (by kernel_rfl)) (nats := natl1) natl1_ok (n := 3000) (by kernel_rfl)
noncomputable def natl2 : List Nat1 := specNat (spS) :: natl1
theorem natl2_ok : ∀ x ∈ natl2, NatOk Try.prog x := by
  intro x hx
  rcases List.mem_cons.1 hx with rfl | hx
  · exact spec0_0
  exact natl1_ok x hx

namespace p1
noncomputable def f0 : E := (.imp (.and (.fn 100 (.pr (.var 3) (.var 0))) (.and (.fn 100 (.pr (.var 2) (.var 0))) (.and (.cmp .lss (.var 4) (.var 0)) (.and (.not (.cmp .lss (.var 0) (.var 4))) (.and (.not (.cmp .lss (.var 4) (.int 0))) (.and (.not (.cmp .lss (.int 65536) (.var 0))) (.not (.cmp .lss (.var 0) (.int 2))))))))) (.cmp .eql (.fn 1 (.pr (.var 2) (.var 4))) (.fn 1 (.pr (.var 3) (.var 4)))))
theorem fact0 (ρ : Env) : E.B ρ f0 = true := by
  unfold f0
  simp only [sm_I_int, sm_I_fn6, sm_I_fn7, sm_I_fn8, sm_B_bool, sm_B_eql, sm_B_lss, sm_B_not, sm_B_and, sm_B_imp, sm_I_add_i64, sm_I_sub_i64, sm_I_rem, sm_I_wr, sm_I_mx, sm_I_mn, dz100, dz1, dz1d, dz2, dz5]
  rintro ⟨p0, p1, p2, p3, p4, p5, p6⟩
  have g0 := zerL_get p0
  have g1 := zerL_get p1
  try simp only [g0, g1, U.toI] at *
  try generalize E.I ρ (.var 4) = a0 at *
  try generalize E.I ρ (.var 0) = a1 at *
  all_goals first
    | omega
    | rfl
noncomputable def f1 : E := (.imp (.and (.not (.cmp .lss (.var 0) (.var 4))) (.and (.not (.cmp .lss (.var 4) (.int 0))) (.and (.not (.cmp .lss (.int 65536) (.var 0))) (.not (.cmp .lss (.var 0) (.int 2)))))) (.not (.cmp .lss (.ar .add .i64 (.var 4) (.int 1)) (.int 0))))
theorem fact1 (ρ : Env) : E.B ρ f1 = true := by
  unfold f1
  simp only [sm_I_int, sm_I_mn, sm_I_mx, sm_I_add_u64, sm_I_sub_u64, sm_I_add_i64, sm_I_sub_i64, sm_I_mul_i64, sm_I_fn6, sm_I_fn7, sm_I_fn8, sm_B_bool, sm_B_eql, sm_B_lss, sm_B_not, sm_B_and, sm_B_imp, sm_B_iff]
  rintro ⟨p0, p1, p2, p3⟩
  try generalize E.I ρ (.var 0) = x0 at *
  try generalize E.I ρ (.var 4) = x1 at *
  obtain ⟨y0, e0, q0, h0⟩ := cs_i64 (x1 + 1)
  try simp only [e0] at *
  omega
noncomputable def f2 : E := (.imp (.and (.cmp .lss (.var 4) (.var 0)) (.and (.not (.cmp .lss (.var 0) (.var 4))) (.and (.not (.cmp .lss (.var 4) (.int 0))) (.and (.not (.cmp .lss (.int 65536) (.var 0))) (.not (.cmp .lss (.var 0) (.int 2))))))) (.not (.cmp .lss (.var 0) (.ar .add .i64 (.var 4) (.int 1)))))
theorem fact2 (ρ : Env) : E.B ρ f2 = true := by
  unfold f2
  simp only [sm_I_int, sm_I_mn, sm_I_mx, sm_I_add_u64, sm_I_sub_u64, sm_I_add_i64, sm_I_sub_i64, sm_I_mul_i64, sm_I_fn6, sm_I_fn7, sm_I_fn8, sm_B_bool, sm_B_eql, sm_B_lss, sm_B_not, sm_B_and, sm_B_imp, sm_B_iff]
  rintro ⟨p0, p1, p2, p3, p4⟩
  try generalize E.I ρ (.var 4) = x0 at *
  try generalize E.I ρ (.var 0) = x1 at *
  obtain ⟨y0, e0, q0, h0⟩ := cs_i64 (x0 + 1)
  try simp only [e0] at *
  omega
noncomputable def f3 : E := (.imp (.and (.not (.cmp .lss (.var 0) (.var 4))) (.and (.not (.cmp .lss (.var 4) (.int 0))) (.and (.not (.cmp .lss (.int 65536) (.var 0))) (.not (.cmp .lss (.var 0) (.int 2)))))) (.cmp .lss (.fn 7 (.pr (.var 0) (.ar .add .i64 (.var 4) (.int 1)))) (.fn 7 (.pr (.var 0) (.var 4)))))
theorem fact3 (ρ : Env) : E.B ρ f3 = true := by
  unfold f3
  simp only [sm_I_int, sm_I_mn, sm_I_mx, sm_I_add_u64, sm_I_sub_u64, sm_I_add_i64, sm_I_sub_i64, sm_I_mul_i64, sm_I_fn6, sm_I_fn7, sm_I_fn8, sm_B_bool, sm_B_eql, sm_B_lss, sm_B_not, sm_B_and, sm_B_imp, sm_B_iff]
  rintro ⟨p0, p1, p2, p3⟩
  try generalize E.I ρ (.var 0) = x0 at *
  try generalize E.I ρ (.var 4) = x1 at *
  obtain ⟨y0, e0, q0, h0⟩ := cs_i64 (x1 + 1)
  try simp only [e0] at *
  omega
noncomputable def f4 : E := (.imp (.and (.cmp .lss (.var 4) (.var 0)) (.and (.not (.cmp .lss (.var 0) (.var 4))) (.and (.not (.cmp .lss (.var 4) (.int 0))) (.and (.not (.cmp .lss (.int 65536) (.var 0))) (.not (.cmp .lss (.var 0) (.int 2))))))) (.not (.cmp .lss (.fn 7 (.pr (.var 0) (.ar .add .i64 (.var 4) (.int 1)))) (.int 0))))
theorem fact4 (ρ : Env) : E.B ρ f4 = true := by
  unfold f4
  simp only [sm_I_int, sm_I_mn, sm_I_mx, sm_I_add_u64, sm_I_sub_u64, sm_I_add_i64, sm_I_sub_i64, sm_I_mul_i64, sm_I_fn6, sm_I_fn7, sm_I_fn8, sm_B_bool, sm_B_eql, sm_B_lss, sm_B_not, sm_B_and, sm_B_imp, sm_B_iff]
  rintro ⟨p0, p1, p2, p3, p4⟩
  try generalize E.I ρ (.var 4) = x0 at *
  try generalize E.I ρ (.var 0) = x1 at *
  obtain ⟨y0, e0, q0, h0⟩ := cs_i64 (x0 + 1)
  try simp only [e0] at *
  omega
noncomputable def facts : List E := [f0, f1, f2, f3, f4]
theorem facts_ok : ∀ e ∈ facts, ∀ ρ : Env, E.B ρ e = true := (all_cons fact0 (all_cons fact1 (all_cons fact2 (all_cons fact3 (all_cons fact4 all_nil)))))
end p1
set_option maxRecDepth 100000 in
theorem spec1_0 : NatOk Try.prog (specNat (spM)) :=
  spec_of_check good (facts := p1.facts) p1.facts_ok (anns := [annM]) (plainAnns_ok _ (by kernel_rfl)) (nats := natl2) natl2_ok (n := 3000) (by kernel_rfl)
noncomputable def natl3 : List Nat1 := specNat (spM) :: natl2
theorem natl3_ok : ∀ x ∈ natl3, NatOk Try.prog x := by
  intro x hx
  rcases List.mem_cons.1 hx with rfl | hx
  · exact spec1_0
  exact natl2_ok x hx

namespace m
noncomputable def f0 : E := (.imp (.and (.not (.cmp .lss (.int 18446744073709551615) (.var 1))) (.and (.not (.cmp .lss (.var 1) (.int 0))) (.and (.not (.cmp .lss (.var 0) (.int (-2)))) (.and (.not (.cmp .lss (.int 2) (.var 0))) (.and (.not (.cmp .lss (.int 9223372036854775807) (.var 0))) (.not (.cmp .lss (.var 0) (.int (-9223372036854775808))))))))) (.not (.cmp .lss (.ar .add .i64 (.int 65536) (.var 0)) (.int 0))))
theorem fact0 (ρ : Env) : E.B ρ f0 = true := by
  unfold f0
  simp only [sm_I_int, sm_I_mn, sm_I_mx, sm_I_add_u64, sm_I_sub_u64, sm_I_add_i64, sm_I_sub_i64, sm_I_mul_i64, sm_I_fn6, sm_I_fn7, sm_I_fn8, sm_B_bool, sm_B_eql, sm_B_lss, sm_B_not, sm_B_and, sm_B_imp, sm_B_iff]
  rintro ⟨p0, p1, p2, p3, p4, p5⟩
  try generalize E.I ρ (.var 1) = x0 at *
  try generalize E.I ρ (.var 0) = x1 at *
  have rx0 : 0 ≤ x0 ∧ x0 < 18446744073709551616 := by omega
  obtain ⟨y0, e0, q0, h0⟩ := cs_i64 (65536 + x1)
  try simp only [e0] at *
  omega
noncomputable def f1 : E := (.imp (.and (.not (.cmp .lss (.int 18446744073709551615) (.var 1))) (.and (.not (.cmp .lss (.var 1) (.int 0))) (.and (.not (.cmp .lss (.var 0) (.int (-2)))) (.and (.not (.cmp .lss (.int 2) (.var 0))) (.and (.not (.cmp .lss (.int 9223372036854775807) (.var 0))) (.not (.cmp .lss (.var 0) (.int (-9223372036854775808))))))))) (.not (.cmp .lss (.int 2147483648) (.ar .add .i64 (.int 65536) (.var 0)))))
theorem fact1 (ρ : Env) : E.B ρ f1 = true := by
  unfold f1
  simp only [sm_I_int, sm_I_mn, sm_I_mx, sm_I_add_u64, sm_I_sub_u64, sm_I_add_i64, sm_I_sub_i64, sm_I_mul_i64, sm_I_fn6, sm_I_fn7, sm_I_fn8, sm_B_bool, sm_B_eql, sm_B_lss, sm_B_not, sm_B_and, sm_B_imp, sm_B_iff]
  rintro ⟨p0, p1, p2, p3, p4, p5⟩
  try generalize E.I ρ (.var 1) = x0 at *
  try generalize E.I ρ (.var 0) = x1 at *
  have rx0 : 0 ≤ x0 ∧ x0 < 18446744073709551616 := by omega
  obtain ⟨y0, e0, q0, h0⟩ := cs_i64 (65536 + x1)
  try simp only [e0] at *
  omega
noncomputable def f2 : E := (.imp (.and (.not (.cmp .lss (.int 18446744073709551615) (.var 1))) (.and (.not (.cmp .lss (.var 1) (.int 0))) (.and (.not (.cmp .lss (.int 65536) (.ar .add .i64 (.int 65536) (.var 0)))) (.and (.not (.cmp .lss (.var 0) (.int (-2)))) (.and (.not (.cmp .lss (.int 2) (.var 0))) (.and (.not (.cmp .lss (.int 9223372036854775807) (.var 0))) (.not (.cmp .lss (.var 0) (.int (-9223372036854775808)))))))))) (.not (.cmp .lss (.int 0) (.var 0))))
theorem fact2 (ρ : Env) : E.B ρ f2 = true := by
  unfold f2
  simp only [sm_I_int, sm_I_mn, sm_I_mx, sm_I_add_u64, sm_I_sub_u64, sm_I_add_i64, sm_I_sub_i64, sm_I_mul_i64, sm_I_fn6, sm_I_fn7, sm_I_fn8, sm_B_bool, sm_B_eql, sm_B_lss, sm_B_not, sm_B_and, sm_B_imp, sm_B_iff]
  rintro ⟨p0, p1, p2, p3, p4, p5, p6⟩
  try generalize E.I ρ (.var 1) = x0 at *
  try generalize E.I ρ (.var 0) = x1 at *
  have rx0 : 0 ≤ x0 ∧ x0 < 18446744073709551616 := by omega
  obtain ⟨y0, e0, q0, h0⟩ := cs_i64 (65536 + x1)
  try simp only [e0] at *
  omega
noncomputable def f3 : E := (.imp (.and (.not (.cmp .lss (.int 65536) (.ar .add .i64 (.int 65536) (.var 0)))) (.and (.not (.cmp .lss (.int 0) (.var 0))) (.and (.cmp .eql (.ar .sub .i64 (.ar .add .i64 (.int 65536) (.var 0)) (.int 0)) (.ar .add .i64 (.int 65536) (.var 0))) (.and (.not (.cmp .lss (.var 0) (.int (-2)))) (.and (.not (.cmp .lss (.int 2) (.var 0))) (.and (.not (.cmp .lss (.int 18446744073709551615) (.var 1))) (.and (.not (.cmp .lss (.var 1) (.int 0))) (.and (.not (.cmp .lss (.int 9223372036854775807) (.var 0))) (.not (.cmp .lss (.var 0) (.int (-9223372036854775808)))))))))))) (.fn 100 (.pr (.fn 5 (.pr (.ar .add .i64 (.int 65536) (.var 0)) (.int 0))) (.ar .add .i64 (.int 65536) (.var 0)))))
theorem fact3 (ρ : Env) : E.B ρ f3 = true := by
  unfold f3
  simp only [sm_I_int, sm_I_fn6, sm_I_fn7, sm_I_fn8, sm_B_bool, sm_B_eql, sm_B_lss, sm_B_not, sm_B_and, sm_B_imp, sm_I_add_i64, sm_I_sub_i64, sm_I_rem, sm_I_wr, sm_I_mx, sm_I_mn, dz100, dz1, dz1d, dz2, dz5]
  rintro ⟨p0, p1, p2, p3, p4, p5, p6, p7, p8⟩
  exact zerL_rep _
noncomputable def f4 : E := (.imp (.and (.cmp .lss (.int 65536) (.ar .add .i64 (.int 65536) (.var 0))) (.and (.not (.cmp .lss (.var 0) (.int (-2)))) (.and (.not (.cmp .lss (.int 2) (.var 0))) (.and (.not (.cmp .lss (.int 9223372036854775807) (.var 0))) (.not (.cmp .lss (.var 0) (.int (-9223372036854775808)))))))) (.not (.cmp .eql (.wr .u64 (.ar .add .i64 (.int 4294967296) (.var 0))) (.int 0))))
theorem fact4 (ρ : Env) : E.B ρ f4 = true := by
  unfold f4
  simp only [sm_I_int, sm_I_fn6, sm_I_fn7, sm_I_fn8, sm_B_bool, sm_B_eql, sm_B_lss, sm_B_not, sm_B_and, sm_B_imp, sm_I_add_i64, sm_I_sub_i64, sm_I_rem, sm_I_wr, sm_I_mx, sm_I_mn, dz100, dz1, dz1d, dz2, dz5]
  rintro ⟨p0, p1, p2, p3, p4⟩
  try generalize E.I ρ (.var 0) = a0 at *
  obtain ⟨a1, ea1, qa1⟩ := cs_i64 ((65536) + a0)
  try simp only [ea1] at *
  obtain ⟨a2, ea2, qa2⟩ := cs_i64 ((4294967296) + a0)
  try simp only [ea2] at *
  obtain ⟨a3, ea3, qa3⟩ := cs_u64 a2
  try simp only [ea3] at *
  all_goals first
    | omega
    | rfl
noncomputable def f5 : E := (.imp (.and (.cmp .lss (.int 65536) (.ar .add .i64 (.int 65536) (.var 0))) (.and (.not (.cmp .lss (.var 0) (.int (-2)))) (.and (.not (.cmp .lss (.int 2) (.var 0))) (.and (.not (.cmp .lss (.int 9223372036854775807) (.var 0))) (.not (.cmp .lss (.var 0) (.int (-9223372036854775808)))))))) (.cmp .lss (.int 0) (.var 0)))
theorem fact5 (ρ : Env) : E.B ρ f5 = true := by
  unfold f5
  simp only [sm_I_int, sm_I_mn, sm_I_mx, sm_I_add_u64, sm_I_sub_u64, sm_I_add_i64, sm_I_sub_i64, sm_I_mul_i64, sm_I_fn6, sm_I_fn7, sm_I_fn8, sm_B_bool, sm_B_eql, sm_B_lss, sm_B_not, sm_B_and, sm_B_imp, sm_B_iff]
  rintro ⟨p0, p1, p2, p3, p4⟩
  try generalize E.I ρ (.var 0) = x0 at *
  obtain ⟨y0, e0, q0, h0⟩ := cs_i64 (65536 + x0)
  try simp only [e0] at *
  omega
noncomputable def f6 : E := (.imp (.and (.not (.cmp .lss (.int 65536) (.ar .add .i64 (.int 65536) (.var 0)))) (.and (.cmp .eql (.ar .sub .i64 (.ar .add .i64 (.int 65536) (.var 0)) (.int 0)) (.ar .add .i64 (.int 65536) (.var 0))) (.and (.not (.cmp .lss (.var 0) (.int (-2)))) (.and (.not (.cmp .lss (.int 2) (.var 0))) (.and (.not (.cmp .lss (.int 18446744073709551615) (.var 1))) (.and (.not (.cmp .lss (.var 1) (.int 0))) (.and (.not (.cmp .lss (.int 9223372036854775807) (.var 0))) (.not (.cmp .lss (.var 0) (.int (-9223372036854775808))))))))))) (.fn 100 (.pr (.fn 5 (.pr (.ar .add .i64 (.int 65536) (.var 0)) (.int 0))) (.ar .add .i64 (.int 65536) (.var 0)))))
theorem fact6 (ρ : Env) : E.B ρ f6 = true := by
  unfold f6
  simp only [sm_I_int, sm_I_fn6, sm_I_fn7, sm_I_fn8, sm_B_bool, sm_B_eql, sm_B_lss, sm_B_not, sm_B_and, sm_B_imp, sm_I_add_i64, sm_I_sub_i64, sm_I_rem, sm_I_wr, sm_I_mx, sm_I_mn, dz100, dz1, dz1d, dz2, dz5]
  rintro ⟨p0, p1, p2, p3, p4, p5, p6, p7⟩
  exact zerL_rep _
noncomputable def f7 : E := (.imp (.and (.cmp .lss (.int 65536) (.ar .add .i64 (.int 65536) (.var 0))) (.and (.not (.cmp .lss (.ar .add .i64 (.int 4294967296) (.var 0)) (.int 1))) (.and (.not (.cmp .lss (.int 4294967296) (.ar .add .i64 (.int 4294967296) (.var 0)))) (.and (.not (.cmp .lss (.var 0) (.int (-2)))) (.and (.not (.cmp .lss (.int 2) (.var 0))) (.and (.not (.cmp .lss (.int 18446744073709551615) (.var 1))) (.and (.not (.cmp .lss (.var 1) (.int 0))) (.and (.not (.cmp .lss (.int 9223372036854775807) (.var 0))) (.not (.cmp .lss (.var 0) (.int (-9223372036854775808)))))))))))) (.cmp .eql (.wr .i64 (.ar .rem .u64 (.var 1) (.wr .u64 (.ar .add .i64 (.int 4294967296) (.var 0))))) (.int 0)))
theorem fact7 (ρ : Env) : E.B ρ f7 = true := by
  unfold f7
  simp only [sm_I_int, sm_I_fn6, sm_I_fn7, sm_I_fn8, sm_B_bool, sm_B_eql, sm_B_lss, sm_B_not, sm_B_and, sm_B_imp, sm_I_add_i64, sm_I_sub_i64, sm_I_rem, sm_I_wr, sm_I_mx, sm_I_mn, dz100, dz1, dz1d, dz2, dz5]
  rintro ⟨p0, p1, p2, p3, p4, p5, p6, p7, p8⟩
  try generalize E.I ρ (.var 0) = a0 at *
  try generalize E.I ρ (.var 1) = a1 at *
  obtain ⟨a2, ea2, qa2⟩ := cs_i64 ((65536) + a0)
  try simp only [ea2] at *
  obtain ⟨a3, ea3, qa3⟩ := cs_i64 ((4294967296) + a0)
  try simp only [ea3] at *
  obtain ⟨a4, ea4, qa4⟩ := cs_u64 a3
  try simp only [ea4] at *
  obtain ⟨a5, ea5, qa5⟩ := cs_rem a1 a4
  try simp only [ea5] at *
  obtain ⟨a6, ea6, qa6⟩ := cs_i64 a5
  try simp only [ea6] at *
  all_goals first
    | omega
    | rfl
noncomputable def f8 : E := (.imp (.and (.cmp .lss (.int 65536) (.ar .add .i64 (.int 65536) (.var 0))) (.and (.not (.cmp .lss (.int 4294967296) (.ar .add .i64 (.int 4294967296) (.var 0)))) (.and (.not (.cmp .lss (.var 0) (.int (-2)))) (.and (.not (.cmp .lss (.int 2) (.var 0))) (.and (.not (.cmp .lss (.int 18446744073709551615) (.var 1))) (.and (.not (.cmp .lss (.var 1) (.int 0))) (.and (.not (.cmp .lss (.int 9223372036854775807) (.var 0))) (.not (.cmp .lss (.var 0) (.int (-9223372036854775808))))))))))) (.not (.cmp .eql (.wr .i64 (.ar .rem .u64 (.var 1) (.wr .u64 (.ar .add .i64 (.int 4294967296) (.var 0))))) (.int 0))))
theorem fact8 (ρ : Env) : E.B ρ f8 = true := by
  unfold f8
  simp only [sm_I_int, sm_I_fn6, sm_I_fn7, sm_I_fn8, sm_B_bool, sm_B_eql, sm_B_lss, sm_B_not, sm_B_and, sm_B_imp, sm_I_add_i64, sm_I_sub_i64, sm_I_rem, sm_I_wr, sm_I_mx, sm_I_mn, dz100, dz1, dz1d, dz2, dz5]
  rintro ⟨p0, p1, p2, p3, p4, p5, p6, p7⟩
  try generalize E.I ρ (.var 0) = a0 at *
  try generalize E.I ρ (.var 1) = a1 at *
  obtain ⟨a2, ea2, qa2⟩ := cs_i64 ((65536) + a0)
  try simp only [ea2] at *
  obtain ⟨a3, ea3, qa3⟩ := cs_i64 ((4294967296) + a0)
  try simp only [ea3] at *
  obtain ⟨a4, ea4, qa4⟩ := cs_u64 a3
  try simp only [ea4] at *
  obtain ⟨a5, ea5, qa5⟩ := cs_rem a1 a4
  try simp only [ea5] at *
  obtain ⟨a6, ea6, qa6⟩ := cs_i64 a5
  try simp only [ea6] at *
  all_goals first
    | omega
    | rfl
noncomputable def f9 : E := (.imp (.and (.not (.cmp .lss (.int 18446744073709551615) (.var 1))) (.and (.not (.cmp .lss (.var 1) (.int 0))) (.and (.not (.cmp .lss (.int 65536) (.ar .add .i64 (.int 65536) (.var 0)))) (.and (.cmp .eql (.ar .sub .i64 (.ar .add .i64 (.int 65536) (.var 0)) (.int 0)) (.ar .add .i64 (.int 65536) (.var 0))) (.and (.not (.cmp .lss (.var 0) (.int (-2)))) (.and (.not (.cmp .lss (.int 2) (.var 0))) (.and (.not (.cmp .lss (.int 9223372036854775807) (.var 0))) (.not (.cmp .lss (.var 0) (.int (-9223372036854775808))))))))))) (.not (.cmp .lss (.ar .add .i64 (.int 65536) (.var 0)) (.int 2))))
theorem fact9 (ρ : Env) : E.B ρ f9 = true := by
  unfold f9
  simp only [sm_I_int, sm_I_mn, sm_I_mx, sm_I_add_u64, sm_I_sub_u64, sm_I_add_i64, sm_I_sub_i64, sm_I_mul_i64, sm_I_fn6, sm_I_fn7, sm_I_fn8, sm_B_bool, sm_B_eql, sm_B_lss, sm_B_not, sm_B_and, sm_B_imp, sm_B_iff]
  rintro ⟨p0, p1, p2, p3, p4, p5, p6, p7⟩
  try generalize E.I ρ (.var 1) = x0 at *
  try generalize E.I ρ (.var 0) = x1 at *
  have rx0 : 0 ≤ x0 ∧ x0 < 18446744073709551616 := by omega
  obtain ⟨y0, e0, q0, h0⟩ := cs_i64 (65536 + x1)
  try simp only [e0] at *
  obtain ⟨y1, e1, q1, h1⟩ := cs_i64 (y0 - 0)
  try simp only [e1] at *
  omega
noncomputable def f10 : E := (.imp (.and (.cmp .lss (.int 65536) (.ar .add .i64 (.int 65536) (.var 0))) (.and (.not (.cmp .lss (.ar .add .i64 (.int 4294967296) (.var 0)) (.int 1))) (.and (.not (.cmp .lss (.var 0) (.int (-2)))) (.and (.not (.cmp .lss (.int 2) (.var 0))) (.and (.not (.cmp .lss (.int 9223372036854775807) (.var 0))) (.not (.cmp .lss (.var 0) (.int (-9223372036854775808))))))))) (.cmp .lss (.int 4294967296) (.ar .add .i64 (.int 4294967296) (.var 0))))
theorem fact10 (ρ : Env) : E.B ρ f10 = true := by
  unfold f10
  simp only [sm_I_int, sm_I_mn, sm_I_mx, sm_I_add_u64, sm_I_sub_u64, sm_I_add_i64, sm_I_sub_i64, sm_I_mul_i64, sm_I_fn6, sm_I_fn7, sm_I_fn8, sm_B_bool, sm_B_eql, sm_B_lss, sm_B_not, sm_B_and, sm_B_imp, sm_B_iff]
  rintro ⟨p0, p1, p2, p3, p4, p5⟩
  try generalize E.I ρ (.var 0) = x0 at *
  obtain ⟨y0, e0, q0, h0⟩ := cs_i64 (65536 + x0)
  try simp only [e0] at *
  obtain ⟨y1, e1, q1, h1⟩ := cs_i64 (4294967296 + x0)
  try simp only [e1] at *
  omega
noncomputable def f11 : E := (.imp (.and (.not (.cmp .lss (.int 18446744073709551615) (.var 1))) (.and (.not (.cmp .lss (.var 1) (.int 0))) (.and (.not (.cmp .lss (.int 65536) (.ar .add .i64 (.int 65536) (.var 0)))) (.and (.cmp .eql (.ar .sub .i64 (.ar .add .i64 (.int 65536) (.var 0)) (.int 0)) (.ar .add .i64 (.int 65536) (.var 0))) (.and (.cmp .eql (.fn 6 (.pr (.var 4) (.int 1))) (.ar .add .i64 (.int 65536) (.var 0))) (.and (.fn 100 (.pr (.var 2) (.ar .add .i64 (.int 65536) (.var 0)))) (.and (.cmp .eql (.ar .sub .i64 (.ar .add .i64 (.int 65536) (.var 0)) (.var 4)) (.int 1)) (.and (.not (.cmp .lss (.var 0) (.int (-2)))) (.and (.not (.cmp .lss (.int 2) (.var 0))) (.and (.not (.cmp .lss (.int 9223372036854775807) (.var 0))) (.not (.cmp .lss (.var 0) (.int (-9223372036854775808)))))))))))))) (.not (.cmp .eql (.wr .u64 (.ar .add .i64 (.int 4294967296) (.var 0))) (.int 0))))
theorem fact11 (ρ : Env) : E.B ρ f11 = true := by
  unfold f11
  simp only [sm_I_int, sm_I_fn6, sm_I_fn7, sm_I_fn8, sm_B_bool, sm_B_eql, sm_B_lss, sm_B_not, sm_B_and, sm_B_imp, sm_I_add_i64, sm_I_sub_i64, sm_I_rem, sm_I_wr, sm_I_mx, sm_I_mn, dz100, dz1, dz1d, dz2, dz5]
  rintro ⟨p0, p1, p2, p3, p4, p5, p6, p7, p8, p9, p10⟩
  have g5 := zerL_get p5
  try simp only [g5, U.toI] at *
  try generalize E.I ρ (.var 1) = a0 at *
  try generalize E.I ρ (.var 0) = a1 at *
  try generalize E.I ρ (.var 4) = a2 at *
  obtain ⟨a3, ea3, qa3⟩ := cs_i64 ((65536) + a1)
  try simp only [ea3] at *
  obtain ⟨a4, ea4, qa4⟩ := cs_i64 (a3 - (0))
  try simp only [ea4] at *
  obtain ⟨a5, ea5, qa5⟩ := cs_i64 (a3 - a2)
  try simp only [ea5] at *
  obtain ⟨a6, ea6, qa6⟩ := cs_i64 ((4294967296) + a1)
  try simp only [ea6] at *
  obtain ⟨a7, ea7, qa7⟩ := cs_u64 a6
  try simp only [ea7] at *
  all_goals first
    | omega
    | rfl
noncomputable def f12 : E := (.imp (.and (.not (.cmp .lss (.var 0) (.int (-2)))) (.and (.not (.cmp .lss (.int 2) (.var 0))) (.and (.not (.cmp .lss (.int 9223372036854775807) (.var 0))) (.not (.cmp .lss (.var 0) (.int (-9223372036854775808))))))) (.cmp .eql (.ar .sub .i64 (.ar .add .i64 (.int 65536) (.var 0)) (.int 0)) (.ar .add .i64 (.int 65536) (.var 0))))
theorem fact12 (ρ : Env) : E.B ρ f12 = true := by
  unfold f12
  simp only [sm_I_int, sm_I_mn, sm_I_mx, sm_I_add_u64, sm_I_sub_u64, sm_I_add_i64, sm_I_sub_i64, sm_I_mul_i64, sm_I_fn6, sm_I_fn7, sm_I_fn8, sm_B_bool, sm_B_eql, sm_B_lss, sm_B_not, sm_B_and, sm_B_imp, sm_B_iff]
  rintro ⟨p0, p1, p2, p3⟩
  try generalize E.I ρ (.var 0) = x0 at *
  obtain ⟨y0, e0, q0, h0⟩ := cs_i64 (65536 + x0)
  try simp only [e0] at *
  obtain ⟨y1, e1, q1, h1⟩ := cs_i64 (y0 - 0)
  try simp only [e1] at *
  omega
noncomputable def f13 : E := (.imp (.and (.cmp .eql (.fn 6 (.pr (.var 4) (.int 1))) (.ar .add .i64 (.int 65536) (.var 0))) (.and (.not (.cmp .lss (.var 0) (.int (-2)))) (.and (.not (.cmp .lss (.int 2) (.var 0))) (.and (.not (.cmp .lss (.int 9223372036854775807) (.var 0))) (.not (.cmp .lss (.var 0) (.int (-9223372036854775808)))))))) (.cmp .eql (.ar .sub .i64 (.ar .add .i64 (.int 65536) (.var 0)) (.var 4)) (.int 1)))
theorem fact13 (ρ : Env) : E.B ρ f13 = true := by
  unfold f13
  simp only [sm_I_int, sm_I_mn, sm_I_mx, sm_I_add_u64, sm_I_sub_u64, sm_I_add_i64, sm_I_sub_i64, sm_I_mul_i64, sm_I_fn6, sm_I_fn7, sm_I_fn8, sm_B_bool, sm_B_eql, sm_B_lss, sm_B_not, sm_B_and, sm_B_imp, sm_B_iff]
  rintro ⟨p0, p1, p2, p3, p4⟩
  try generalize E.I ρ (.var 4) = x0 at *
  try generalize E.I ρ (.var 0) = x1 at *
  obtain ⟨y0, e0, q0, h0⟩ := cs_i64 (65536 + x1)
  try simp only [e0] at *
  obtain ⟨y1, e1, q1, h1⟩ := cs_i64 (y0 - x0)
  try simp only [e1] at *
  omega
noncomputable def f14 : E := (.imp (.and (.cmp .lss (.ar .add .i64 (.int 4294967296) (.var 0)) (.int 1)) (.and (.not (.cmp .lss (.var 0) (.int (-2)))) (.and (.not (.cmp .lss (.int 2) (.var 0))) (.and (.not (.cmp .lss (.int 18446744073709551615) (.var 1))) (.and (.not (.cmp .lss (.var 1) (.int 0))) (.and (.not (.cmp .lss (.int 9223372036854775807) (.var 0))) (.not (.cmp .lss (.var 0) (.int (-9223372036854775808)))))))))) (.not (.cmp .eql (.wr .i64 (.ar .rem .u64 (.var 1) (.wr .u64 (.ar .add .i64 (.int 4294967296) (.var 0))))) (.int 0))))
theorem fact14 (ρ : Env) : E.B ρ f14 = true := by
  unfold f14
  simp only [sm_I_int, sm_I_fn6, sm_I_fn7, sm_I_fn8, sm_B_bool, sm_B_eql, sm_B_lss, sm_B_not, sm_B_and, sm_B_imp, sm_I_add_i64, sm_I_sub_i64, sm_I_rem, sm_I_wr, sm_I_mx, sm_I_mn, dz100, dz1, dz1d, dz2, dz5]
  rintro ⟨p0, p1, p2, p3, p4, p5, p6⟩
  try generalize E.I ρ (.var 0) = a0 at *
  try generalize E.I ρ (.var 1) = a1 at *
  obtain ⟨a2, ea2, qa2⟩ := cs_i64 ((4294967296) + a0)
  try simp only [ea2] at *
  obtain ⟨a3, ea3, qa3⟩ := cs_u64 a2
  try simp only [ea3] at *
  obtain ⟨a4, ea4, qa4⟩ := cs_rem a1 a3
  try simp only [ea4] at *
  obtain ⟨a5, ea5, qa5⟩ := cs_i64 a4
  try simp only [ea5] at *
  all_goals first
    | omega
    | rfl
noncomputable def f15 : E := (.imp (.and (.not (.cmp .lss (.int 65536) (.ar .add .i64 (.int 65536) (.var 0)))) (.and (.cmp .eql (.ar .sub .i64 (.ar .add .i64 (.int 65536) (.var 0)) (.int 0)) (.ar .add .i64 (.int 65536) (.var 0))) (.and (.cmp .eql (.fn 6 (.pr (.var 4) (.int 1))) (.ar .add .i64 (.int 65536) (.var 0))) (.and (.fn 100 (.pr (.var 2) (.ar .add .i64 (.int 65536) (.var 0)))) (.and (.cmp .eql (.ar .sub .i64 (.ar .add .i64 (.int 65536) (.var 0)) (.var 4)) (.int 1)) (.and (.cmp .lss (.ar .add .i64 (.int 4294967296) (.var 0)) (.int 1)) (.and (.not (.cmp .lss (.var 0) (.int (-2)))) (.and (.not (.cmp .lss (.int 2) (.var 0))) (.and (.not (.cmp .lss (.int 18446744073709551615) (.var 1))) (.and (.not (.cmp .lss (.var 1) (.int 0))) (.and (.not (.cmp .lss (.int 9223372036854775807) (.var 0))) (.not (.cmp .lss (.var 0) (.int (-9223372036854775808))))))))))))))) (.cmp .eql (.wr .i64 (.ar .rem .u64 (.var 1) (.wr .u64 (.ar .add .i64 (.int 4294967296) (.var 0))))) (.int 0)))
theorem fact15 (ρ : Env) : E.B ρ f15 = true := by
  unfold f15
  simp only [sm_I_int, sm_I_fn6, sm_I_fn7, sm_I_fn8, sm_B_bool, sm_B_eql, sm_B_lss, sm_B_not, sm_B_and, sm_B_imp, sm_I_add_i64, sm_I_sub_i64, sm_I_rem, sm_I_wr, sm_I_mx, sm_I_mn, dz100, dz1, dz1d, dz2, dz5]
  rintro ⟨p0, p1, p2, p3, p4, p5, p6, p7, p8, p9, p10, p11⟩
  have g3 := zerL_get p3
  try simp only [g3, U.toI] at *
  try generalize E.I ρ (.var 0) = a0 at *
  try generalize E.I ρ (.var 4) = a1 at *
  try generalize E.I ρ (.var 1) = a2 at *
  obtain ⟨a3, ea3, qa3⟩ := cs_i64 ((65536) + a0)
  try simp only [ea3] at *
  obtain ⟨a4, ea4, qa4⟩ := cs_i64 (a3 - (0))
  try simp only [ea4] at *
  obtain ⟨a5, ea5, qa5⟩ := cs_i64 (a3 - a1)
  try simp only [ea5] at *
  obtain ⟨a6, ea6, qa6⟩ := cs_i64 ((4294967296) + a0)
  try simp only [ea6] at *
  obtain ⟨a7, ea7, qa7⟩ := cs_u64 a6
  try simp only [ea7] at *
  obtain ⟨a8, ea8, qa8⟩ := cs_rem a2 a7
  try simp only [ea8] at *
  obtain ⟨a9, ea9, qa9⟩ := cs_i64 a8
  try simp only [ea9] at *
  all_goals first
    | omega
    | rfl
noncomputable def f16 : E := (.imp (.and (.not (.cmp .lss (.int 65536) (.ar .add .i64 (.int 65536) (.var 0)))) (.and (.cmp .lss (.int 4294967296) (.ar .add .i64 (.int 4294967296) (.var 0))) (.and (.not (.cmp .lss (.var 0) (.int (-2)))) (.and (.not (.cmp .lss (.int 2) (.var 0))) (.and (.not (.cmp .lss (.int 18446744073709551615) (.var 1))) (.and (.not (.cmp .lss (.var 1) (.int 0))) (.and (.not (.cmp .lss (.int 9223372036854775807) (.var 0))) (.not (.cmp .lss (.var 0) (.int (-9223372036854775808))))))))))) (.not (.cmp .eql (.wr .i64 (.ar .rem .u64 (.var 1) (.wr .u64 (.ar .add .i64 (.int 4294967296) (.var 0))))) (.int 0))))
theorem fact16 (ρ : Env) : E.B ρ f16 = true := by
  unfold f16
  simp only [sm_I_int, sm_I_fn6, sm_I_fn7, sm_I_fn8, sm_B_bool, sm_B_eql, sm_B_lss, sm_B_not, sm_B_and, sm_B_imp, sm_I_add_i64, sm_I_sub_i64, sm_I_rem, sm_I_wr, sm_I_mx, sm_I_mn, dz100, dz1, dz1d, dz2, dz5]
  rintro ⟨p0, p1, p2, p3, p4, p5, p6, p7⟩
  try generalize E.I ρ (.var 0) = a0 at *
  try generalize E.I ρ (.var 1) = a1 at *
  obtain ⟨a2, ea2, qa2⟩ := cs_i64 ((65536) + a0)
  try simp only [ea2] at *
  obtain ⟨a3, ea3, qa3⟩ := cs_i64 ((4294967296) + a0)
  try simp only [ea3] at *
  obtain ⟨a4, ea4, qa4⟩ := cs_u64 a3
  try simp only [ea4] at *
  obtain ⟨a5, ea5, qa5⟩ := cs_rem a1 a4
  try simp only [ea5] at *
  obtain ⟨a6, ea6, qa6⟩ := cs_i64 a5
  try simp only [ea6] at *
  all_goals first
    | omega
    | rfl
noncomputable def f17 : E := (.imp (.and (.not (.cmp .lss (.int 65536) (.ar .add .i64 (.int 65536) (.var 0)))) (.and (.cmp .lss (.int 4294967296) (.ar .add .i64 (.int 4294967296) (.var 0))) (.and (.not (.cmp .lss (.var 0) (.int (-2)))) (.and (.not (.cmp .lss (.int 2) (.var 0))) (.and (.not (.cmp .lss (.int 18446744073709551615) (.var 1))) (.and (.not (.cmp .lss (.var 1) (.int 0))) (.and (.not (.cmp .lss (.int 9223372036854775807) (.var 0))) (.not (.cmp .lss (.var 0) (.int (-9223372036854775808))))))))))) (.cmp .eql (.wr .i64 (.ar .rem .u64 (.var 1) (.wr .u64 (.ar .add .i64 (.int 4294967296) (.var 0))))) (.int 0)))
theorem fact17 (ρ : Env) : E.B ρ f17 = true := by
  unfold f17
  simp only [sm_I_int, sm_I_fn6, sm_I_fn7, sm_I_fn8, sm_B_bool, sm_B_eql, sm_B_lss, sm_B_not, sm_B_and, sm_B_imp, sm_I_add_i64, sm_I_sub_i64, sm_I_rem, sm_I_wr, sm_I_mx, sm_I_mn, dz100, dz1, dz1d, dz2, dz5]
  rintro ⟨p0, p1, p2, p3, p4, p5, p6, p7⟩
  try generalize E.I ρ (.var 0) = a0 at *
  try generalize E.I ρ (.var 1) = a1 at *
  obtain ⟨a2, ea2, qa2⟩ := cs_i64 ((65536) + a0)
  try simp only [ea2] at *
  obtain ⟨a3, ea3, qa3⟩ := cs_i64 ((4294967296) + a0)
  try simp only [ea3] at *
  obtain ⟨a4, ea4, qa4⟩ := cs_u64 a3
  try simp only [ea4] at *
  obtain ⟨a5, ea5, qa5⟩ := cs_rem a1 a4
  try simp only [ea5] at *
  obtain ⟨a6, ea6, qa6⟩ := cs_i64 a5
  try simp only [ea6] at *
  all_goals first
    | omega
    | rfl
noncomputable def f18 : E := (.imp (.and (.not (.cmp .lss (.int 65536) (.ar .add .i64 (.int 65536) (.var 0)))) (.and (.not (.cmp .lss (.var 0) (.int (-2)))) (.and (.not (.cmp .lss (.int 2) (.var 0))) (.and (.not (.cmp .lss (.int 18446744073709551615) (.var 1))) (.and (.not (.cmp .lss (.var 1) (.int 0))) (.and (.not (.cmp .lss (.int 9223372036854775807) (.var 0))) (.not (.cmp .lss (.var 0) (.int (-9223372036854775808)))))))))) (.fn 100 (.pr (.fn 5 (.pr (.ar .add .i64 (.int 65536) (.var 0)) (.int 0))) (.ar .add .i64 (.int 65536) (.var 0)))))
theorem fact18 (ρ : Env) : E.B ρ f18 = true := by
  unfold f18
  simp only [sm_I_int, sm_I_fn6, sm_I_fn7, sm_I_fn8, sm_B_bool, sm_B_eql, sm_B_lss, sm_B_not, sm_B_and, sm_B_imp, sm_I_add_i64, sm_I_sub_i64, sm_I_rem, sm_I_wr, sm_I_mx, sm_I_mn, dz100, dz1, dz1d, dz2, dz5]
  rintro ⟨p0, p1, p2, p3, p4, p5, p6⟩
  exact zerL_rep _
noncomputable def f19 : E := (.imp (.and (.not (.cmp .lss (.int 18446744073709551615) (.var 1))) (.and (.not (.cmp .lss (.var 1) (.int 0))) (.and (.not (.cmp .lss (.int 65536) (.ar .add .i64 (.int 65536) (.var 0)))) (.and (.not (.cmp .lss (.var 0) (.int (-2)))) (.and (.not (.cmp .lss (.int 2) (.var 0))) (.and (.not (.cmp .lss (.int 9223372036854775807) (.var 0))) (.not (.cmp .lss (.var 0) (.int (-9223372036854775808)))))))))) (.not (.cmp .lss (.ar .add .i64 (.int 65536) (.var 0)) (.int 2))))
theorem fact19 (ρ : Env) : E.B ρ f19 = true := by
  unfold f19
  simp only [sm_I_int, sm_I_mn, sm_I_mx, sm_I_add_u64, sm_I_sub_u64, sm_I_add_i64, sm_I_sub_i64, sm_I_mul_i64, sm_I_fn6, sm_I_fn7, sm_I_fn8, sm_B_bool, sm_B_eql, sm_B_lss, sm_B_not, sm_B_and, sm_B_imp, sm_B_iff]
  rintro ⟨p0, p1, p2, p3, p4, p5, p6⟩
  try generalize E.I ρ (.var 1) = x0 at *
  try generalize E.I ρ (.var 0) = x1 at *
  have rx0 : 0 ≤ x0 ∧ x0 < 18446744073709551616 := by omega
  obtain ⟨y0, e0, q0, h0⟩ := cs_i64 (65536 + x1)
  try simp only [e0] at *
  omega
noncomputable def f20 : E := (.imp (.and (.not (.cmp .lss (.int 18446744073709551615) (.var 1))) (.and (.not (.cmp .lss (.var 1) (.int 0))) (.and (.not (.cmp .lss (.int 65536) (.ar .add .i64 (.int 65536) (.var 0)))) (.and (.cmp .eql (.fn 6 (.pr (.var 4) (.int 1))) (.ar .add .i64 (.int 65536) (.var 0))) (.and (.fn 100 (.pr (.var 2) (.ar .add .i64 (.int 65536) (.var 0)))) (.and (.not (.cmp .lss (.var 0) (.int (-2)))) (.and (.not (.cmp .lss (.int 2) (.var 0))) (.and (.not (.cmp .lss (.int 9223372036854775807) (.var 0))) (.not (.cmp .lss (.var 0) (.int (-9223372036854775808)))))))))))) (.not (.cmp .eql (.wr .u64 (.ar .add .i64 (.int 4294967296) (.var 0))) (.int 0))))
theorem fact20 (ρ : Env) : E.B ρ f20 = true := by
  unfold f20
  simp only [sm_I_int, sm_I_fn6, sm_I_fn7, sm_I_fn8, sm_B_bool, sm_B_eql, sm_B_lss, sm_B_not, sm_B_and, sm_B_imp, sm_I_add_i64, sm_I_sub_i64, sm_I_rem, sm_I_wr, sm_I_mx, sm_I_mn, dz100, dz1, dz1d, dz2, dz5]
  rintro ⟨p0, p1, p2, p3, p4, p5, p6, p7, p8⟩
  have g4 := zerL_get p4
  try simp only [g4, U.toI] at *
  try generalize E.I ρ (.var 1) = a0 at *
  try generalize E.I ρ (.var 0) = a1 at *
  try generalize E.I ρ (.var 4) = a2 at *
  obtain ⟨a3, ea3, qa3⟩ := cs_i64 ((65536) + a1)
  try simp only [ea3] at *
  obtain ⟨a4, ea4, qa4⟩ := cs_i64 ((4294967296) + a1)
  try simp only [ea4] at *
  obtain ⟨a5, ea5, qa5⟩ := cs_u64 a4
  try simp only [ea5] at *
  all_goals first
    | omega
    | rfl
noncomputable def f21 : E := (.imp (.and (.not (.cmp .lss (.int 18446744073709551615) (.var 1))) (.and (.not (.cmp .lss (.var 1) (.int 0))) (.and (.not (.cmp .lss (.int 65536) (.ar .add .i64 (.int 65536) (.var 0)))) (.and (.cmp .eql (.fn 6 (.pr (.var 4) (.int 1))) (.ar .add .i64 (.int 65536) (.var 0))) (.and (.fn 100 (.pr (.var 2) (.ar .add .i64 (.int 65536) (.var 0)))) (.and (.not (.cmp .lss (.var 0) (.int (-2)))) (.and (.not (.cmp .lss (.int 2) (.var 0))) (.and (.not (.cmp .lss (.int 9223372036854775807) (.var 0))) (.not (.cmp .lss (.var 0) (.int (-9223372036854775808)))))))))))) (.not (.cmp .lss (.ar .add .i64 (.int 4294967296) (.var 0)) (.int 1))))
theorem fact21 (ρ : Env) : E.B ρ f21 = true := by
  unfold f21
  simp only [sm_I_int, sm_I_fn6, sm_I_fn7, sm_I_fn8, sm_B_bool, sm_B_eql, sm_B_lss, sm_B_not, sm_B_and, sm_B_imp, sm_I_add_i64, sm_I_sub_i64, sm_I_rem, sm_I_wr, sm_I_mx, sm_I_mn, dz100, dz1, dz1d, dz2, dz5]
  rintro ⟨p0, p1, p2, p3, p4, p5, p6, p7, p8⟩
  have g4 := zerL_get p4
  try simp only [g4, U.toI] at *
  try generalize E.I ρ (.var 1) = a0 at *
  try generalize E.I ρ (.var 0) = a1 at *
  try generalize E.I ρ (.var 4) = a2 at *
  obtain ⟨a3, ea3, qa3⟩ := cs_i64 ((65536) + a1)
  try simp only [ea3] at *
  obtain ⟨a4, ea4, qa4⟩ := cs_i64 ((4294967296) + a1)
  try simp only [ea4] at *
  all_goals first
    | omega
    | rfl
noncomputable def f22 : E := (.imp (.and (.not (.cmp .lss (.int 65536) (.ar .add .i64 (.int 65536) (.var 0)))) (.and (.not (.cmp .lss (.var 0) (.int (-2)))) (.and (.not (.cmp .lss (.int 2) (.var 0))) (.and (.not (.cmp .lss (.int 9223372036854775807) (.var 0))) (.not (.cmp .lss (.var 0) (.int (-9223372036854775808)))))))) (.not (.cmp .lss (.int 4294967296) (.ar .add .i64 (.int 4294967296) (.var 0)))))
theorem fact22 (ρ : Env) : E.B ρ f22 = true := by
  unfold f22
  simp only [sm_I_int, sm_I_mn, sm_I_mx, sm_I_add_u64, sm_I_sub_u64, sm_I_add_i64, sm_I_sub_i64, sm_I_mul_i64, sm_I_fn6, sm_I_fn7, sm_I_fn8, sm_B_bool, sm_B_eql, sm_B_lss, sm_B_not, sm_B_and, sm_B_imp, sm_B_iff]
  rintro ⟨p0, p1, p2, p3, p4⟩
  try generalize E.I ρ (.var 0) = x0 at *
  obtain ⟨y0, e0, q0, h0⟩ := cs_i64 (65536 + x0)
  try simp only [e0] at *
  obtain ⟨y1, e1, q1, h1⟩ := cs_i64 (4294967296 + x0)
  try simp only [e1] at *
  omega
noncomputable def facts : List E := [f0, f1, f2, f3, f4, f5, f6, f7, f8, f9, f10, f11, f12, f13, f14, f15, f16, f17, f18, f19, f20, f21, f22]
theorem facts_ok : ∀ e ∈ facts, ∀ ρ : Env, E.B ρ e = true := (all_cons fact0 (all_cons fact1 (all_cons fact2 (all_cons fact3 (all_cons fact4 (all_cons fact5 (all_cons fact6 (all_cons fact7 (all_cons fact8 (all_cons fact9 (all_cons fact10 (all_cons fact11 (all_cons fact12 (all_cons fact13 (all_cons fact14 (all_cons fact15 (all_cons fact16 (all_cons fact17 (all_cons fact18 (all_cons fact19 (all_cons fact20 (all_cons fact21 (all_cons fact22 all_nil)))))))))))))))))))))))
end m
set_option maxRecDepth 100000 in
theorem reckoned : withTab Try.prog (fun tb => checkAll outTrue (run Try.prog (tb.plus m.facts [] natl3) 3000 (.call 4 args) .nil (varSt 2 pc0) SX.one)) = true := by kernel_rfl

set_option maxRecDepth 100000 in
theorem walk {H : Type} (W : World) (base : Nat) (enc : TypeId × Value → H) (v0 : Value) (d0 : DataW H) (p0 : List MemPlace) (v1 : Value) (d1 : DataW H) (p1 : List MemPlace)
    (o0 : Value.okWide Try.prog W .any base 3 v0) (h0 : DataW.Trod enc Try.prog W 0 (fun _ => true) true 3 v0 d0 p0)
    (o1 : Value.okWide Try.prog W .any base 22 v1) (h1 : DataW.Trod enc Try.prog W 0 (fun _ => true) true 22 v1 d1 p1) :
    Calls Try.prog 4 #[v0, v1] W fun e W' => e = .returned (.bool true) ∧ Below W.heap.size W W' := by
  obtain ⟨x0, rfl, _, _, w0⟩ := open_int Try.underlying3 o0 h0
  have r0 := wf_i64 w0
  obtain ⟨x1, rfl, _, _, w1⟩ := open_int Try.underlying22 o1 h1
  have r1 := wf_u64 w1

  refine true_of_check2 good (facts := m.facts) m.facts_ok (anns := []) (plainAnns_ok _ (by kernel_rfl)) natl3_ok (vs := [.int x0, .int x1]) (pc := pc0) reckoned ?_ W ⟨trivial, ⟨trivial, trivial⟩⟩
  unfold pc0
  try simp only [u64R, i64R, List.cons_append, List.nil_append]
  repeat' (refine pc_cons ?_ ?_)
  all_goals first
    | exact pc_nil
    | (first | fail | skip; done)
    | (simp only [eLe, eLt, eV, Env.of, sm_I_int, sm_I_var, sm_B_lss, sm_B_not, getD_cons_zero, getD_cons_succ, toI_int]; omega)

set_option maxRecDepth 100000 in
theorem lifted (os : Os) (started : os.Started) (H : Type) (enc : TypeId × Value → H) :
    ReturnsInHanded {} Try.checked os 4 .any (Rows.drawsLongsSpec.pre6 enc Try.prog Try.f4 Rows.drawsLongsRow.domain false) (Rows.drawsLongsSpec.post enc Try.prog Try.f4 false true false false) := by
  refine returnsInHanded_of_change (C := Try.checked) own started (by kernel_rfl) Try.func4
    (ChangeSpec.witness6 (enc := enc) (C := Try.checked) false ⟨#[], #[.int .i64 0, .int .u64 0], []⟩ 8 (by kernel_rfl) (by kernel_rfl) (by kernel_rfl) (by kernel_rfl)) ?_
  intro W base args ds gs before hval0 hW hcnd _
  have hval : ∀ (j : Nat) t v, Try.f4.params[j]? = some t → args[j]? = some v → Value.okWide Try.prog W .any base t v := hval0
  have hW' := hW
  obtain ⟨p, q, hA0, hV, rfl, hfz, hnd⟩ := hW
  have hA : DataW.TrodAll enc Try.prog W 0 (fun _ => true) true Try.f4.params.toList args.toList ds p := hA0
  rw [Try.params4] at hA hval
  obtain ⟨v0, vs0, d0, ds0, p0, q0, hargs, rfl, rfl, h0, r0⟩ := trodAll_cons hA
  obtain ⟨v1, vs1, d1, ds1, p1, q1, rfl, rfl, rfl, h1, r1⟩ := trodAll_cons r0
  obtain ⟨rfl, rfl, rfl⟩ := trodAll_nil r1
  obtain rfl : args = #[v0, v1] := by cases args; simp_all
  obtain ⟨rfl, rfl⟩ := trodVars_none hV
  have lt0 : ∀ x ∈ p0, x.block < W.heap.size := by obtain ⟨m, hm⟩ := h0; exact DataW.trod_lt m _ _ _ hm
  have lt1 : ∀ x ∈ p1, x.block < W.heap.size := by obtain ⟨m, hm⟩ := h1; exact DataW.trod_lt m _ _ _ hm
  have o0 := hval 0 3 v0 rfl rfl
  have o1 := hval 1 22 v1 rfl rfl
  clear hA0 hval0
  refine (walk W base enc v0 d0 p0 v1 d1 p1 o0 h0 o1 h1).mono fun e W' ⟨he, bel⟩ => ?_
  subst he
  exact ⟨_, rfl, _, _, _, [], _, [], hW', trodAll_mk1 (shut_bool Try.underlying4 _), (trodAll_cons_mk (Below.trod laidOut (by kernel_rfl) (of_decide_eq_true (by kernel_rfl)) h0 bel lt0) (trodAll_cons_mk (Below.trod laidOut (by kernel_rfl) (of_decide_eq_true (by kernel_rfl)) h1 bel lt1) trodAll_mk0)), rfl, bel.frame _, fun h => by cases h⟩

theorem over : Rows.drawsLongsRow.holds Try.pinned (OpenSpec.ofChange Rows.drawsLongsSpec) :=
  OpenClaim.holds_of_wide 4 Try.f4 rfl rfl rfl rfl rfl rfl rfl ⟨rfl, rfl, rfl, rfl, rfl⟩ rfl rfl rfl rfl rfl (by kernel_rfl) Try.func4 (by kernel_rfl)
    (of_decide_eq_true (by kernel_rfl)) (by unfold Func.isWrapper; first | (rw [if_pos (by decide +kernel)]; kernel_rfl) | (rw [if_neg (by decide +kernel)]; exact ⟨rfl, rfl⟩))
    (fun os started H enc _ => lifted os started H enc)

theorem proved : Rows.DrawsLongsSaid := over

end Go.Proofs.Ytmcifbikfjmmfaa.drawsLongs

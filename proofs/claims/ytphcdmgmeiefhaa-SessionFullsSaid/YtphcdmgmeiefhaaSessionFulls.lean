/-
  SessionFulls: one reckoning by the kernel, with what is known at the loops' heads, contracts of functions, and facts of arithmetic.
-/
import Derived.Test.YtphcdmgmeiefhaaRows
import Derived.Test.YtphcdmgmeiefhaaNat
import Derived.WalkKit
import Derived.ProofKit
import Derived.OpenShut
import Derived.ChangeOld
import Derived.Below
import Derived.KernelRfl
import Derived.Lib.SmallJoins
namespace Go.Proofs.Ytphcdmgmeiefhaa.sessionFulls
open Go.ChangeShapes Go.WideShapes Go.ChangeAt Go.RowKit
open Go.SX
set_option linter.unusedVariables false
set_option linter.unusedSimpArgs false
set_option maxRecDepth 100000
theorem own : ownKnob Try.prog.godebug = none := by kernel_rfl
theorem laidOut : laidOutB Try.prog = true := by kernel_rfl
theorem good : progOk Try.prog = true := by kernel_rfl


noncomputable def pc0 : List E := i64R [0]
noncomputable def args : List SV := [.int .i64 (.var 0)]
noncomputable def many : List E := [eLe (eV 0) (.int 10002), eLe (.int 9998) (eV 0)]
noncomputable def ii (e : E) : SV := .int .i64 e
noncomputable def zeroS : SV := .str (.str ⟨#[122, 101, 114, 111]⟩)
noncomputable def oneS : SV := .str (.str ⟨#[111, 110, 101, 49]⟩)
noncomputable def gone : Blk := ⟨true, .gone⟩
noncomputable def t0 : Tmpl := ⟨tmSlots 59 [(0, ii (eV 0)), (3, .ptr 2 ⟨0, 0, .int 0⟩), (5, ii (eV 1))],
  ⟨3, 3, heapL [gone, ⟨true, .map [] (eV 2)⟩, ⟨true, .cells [zeroS, oneS, .map 1, ii (.int (-1)), ii (.int (-1)), ii (.int 0)] (.int 6) 65⟩], many ++ pc0 ++ [.cmp .eql (eV 1) (.int 0), eLe (.int 0) (eV 2)]⟩, .fn 7 (.pr (eV 0) (eV 1))⟩
noncomputable def tb (n : Nat) : T Blk := heapL [gone, ⟨true, .map [⟨ii (eV 3), ii (.int 1), eV 4⟩] (eV 2)⟩, ⟨true, .cells [zeroS, oneS, .map 1, ii (.int (-1)), ii (eV 6), ii (eV 5)] (.int n) 65⟩]
noncomputable def bnd : List E := [eLe (.int 1) (eV 1), eLe (eV 1) (.int 10002), eLe (.int 0) (eV 3), eLe (eV 3) (.int 9999), eLe (.int 0) (eV 2), eLe (.int 0) (eV 5), eLe (eV 5) (.int 10000), eLe (.int 0) (eV 6), eLe (eV 6) (.int 9999)]
noncomputable def t1 : Tmpl := ⟨tmSlots 59 [(0, ii (eV 0)), (3, .ptr 2 ⟨0, 0, .int 0⟩), (5, ii (eV 1))],
  ⟨7, 3, tb 6, many ++ pc0 ++ bnd ++ [eLe (eV 1) (eV 0), .cmp .eql (eV 5) (.mn (eV 1) (.int 10000)), .cmp .eql (.fn 6 (.pr (eV 3) (.int 1))) (eV 5), .cmp .eql (eV 3) (eV 6)]⟩, .fn 7 (.pr (eV 0) (eV 1))⟩
noncomputable def ts : List Tmpl := [t0, t1]
noncomputable def ann1 (y : Option LoopX) : Ann := ⟨4, 0, ts, y⟩
noncomputable def y1 : LoopX := ⟨1, 3, [⟨.exit 0, tmSlots 59 [(3, .ptr 2 ⟨0, 0, .int 0⟩)], ⟨7, 3, tb 6, [eLe (.int 0) (eV 3), eLe (eV 3) (.int 9999)]⟩⟩]⟩

noncomputable def natl0 : List Nat1 := nats
theorem natl0_ok : ∀ x ∈ natl0, NatOk Try.prog x := nats_ok

set_option maxRecDepth 100000 in
theorem reckoned0 : withTab Try.prog (fun tb => checkAll outTrue (run Try.prog (tb.plus [] [] natl0) 3000 (.call 8 []) .nil (varSt 0 []) SX.one)) = true := by kernel_rfl
noncomputable def natl1 : List Nat1 := closedNat 8 :: natl0
theorem natl1_ok : ∀ x ∈ natl1, NatOk Try.prog x := by
  intro x hx
  rcases List.mem_cons.1 hx with rfl | hx
  · exact closed_of_check good (facts := []) all_nil (anns := []) (plainAnns_ok [] rfl) (nats := natl0) natl0_ok reckoned0
  · exact natl0_ok x hx

namespace l0
noncomputable def f0 : E := (.imp (.cmp .eql (.var 1) (.int 0)) (.cmp .eql (.ar .sub .i64 (.var 1) (.int 1)) (.int (-1))))
theorem fact0 (ρ : Env) : E.B ρ f0 = true := by
  unfold f0
  simp only [sm_I_int, sm_I_mn, sm_I_mx, sm_I_add_u64, sm_I_sub_u64, sm_I_add_i64, sm_I_sub_i64, sm_I_mul_i64, sm_I_fn6, sm_I_fn7, sm_I_fn8, sm_B_bool, sm_B_eql, sm_B_lss, sm_B_not, sm_B_and, sm_B_imp, sm_B_iff]
  intro p0
  try generalize E.I ρ (.var 1) = x0 at *
  obtain ⟨y0, e0, q0, h0⟩ := cs_i64 (x0 - 1)
  try simp only [e0] at *
  omega
noncomputable def f1 : E := (.imp (.cmp .eql (.var 1) (.int 0)) (.not (.cmp .lss (.ar .add .i64 (.var 1) (.int 1)) (.int 1))))
theorem fact1 (ρ : Env) : E.B ρ f1 = true := by
  unfold f1
  simp only [sm_I_int, sm_I_mn, sm_I_mx, sm_I_add_u64, sm_I_sub_u64, sm_I_add_i64, sm_I_sub_i64, sm_I_mul_i64, sm_I_fn6, sm_I_fn7, sm_I_fn8, sm_B_bool, sm_B_eql, sm_B_lss, sm_B_not, sm_B_and, sm_B_imp, sm_B_iff]
  intro p0
  try generalize E.I ρ (.var 1) = x0 at *
  obtain ⟨y0, e0, q0, h0⟩ := cs_i64 (x0 + 1)
  try simp only [e0] at *
  omega
noncomputable def f2 : E := (.imp (.and (.cmp .eql (.var 1) (.int 0)) (.and (.not (.cmp .lss (.int 9223372036854775807) (.var 0))) (.and (.not (.cmp .lss (.var 0) (.int (-9223372036854775808)))) (.and (.not (.cmp .lss (.var 0) (.int 9998))) (.not (.cmp .lss (.int 10002) (.var 0))))))) (.cmp .lss (.var 1) (.var 0)))
theorem fact2 (ρ : Env) : E.B ρ f2 = true := by
  unfold f2
  simp only [sm_I_int, sm_I_mn, sm_I_mx, sm_I_add_u64, sm_I_sub_u64, sm_I_add_i64, sm_I_sub_i64, sm_I_mul_i64, sm_I_fn6, sm_I_fn7, sm_I_fn8, sm_B_bool, sm_B_eql, sm_B_lss, sm_B_not, sm_B_and, sm_B_imp, sm_B_iff]
  rintro ⟨p0, p1, p2, p3, p4⟩
  try generalize E.I ρ (.var 1) = x0 at *
  try generalize E.I ρ (.var 0) = x1 at *
  omega
noncomputable def f3 : E := (.imp (.cmp .eql (.var 1) (.int 0)) (.not (.cmp .lss (.int 10002) (.ar .add .i64 (.var 1) (.int 1)))))
theorem fact3 (ρ : Env) : E.B ρ f3 = true := by
  unfold f3
  simp only [sm_I_int, sm_I_mn, sm_I_mx, sm_I_add_u64, sm_I_sub_u64, sm_I_add_i64, sm_I_sub_i64, sm_I_mul_i64, sm_I_fn6, sm_I_fn7, sm_I_fn8, sm_B_bool, sm_B_eql, sm_B_lss, sm_B_not, sm_B_and, sm_B_imp, sm_B_iff]
  intro p0
  try generalize E.I ρ (.var 1) = x0 at *
  obtain ⟨y0, e0, q0, h0⟩ := cs_i64 (x0 + 1)
  try simp only [e0] at *
  omega
noncomputable def f4 : E := (.imp (.and (.cmp .eql (.var 1) (.int 0)) (.and (.not (.cmp .lss (.int 9223372036854775807) (.var 0))) (.and (.not (.cmp .lss (.var 0) (.int (-9223372036854775808)))) (.and (.not (.cmp .lss (.var 0) (.int 9998))) (.not (.cmp .lss (.int 10002) (.var 0))))))) (.not (.cmp .lss (.var 0) (.ar .add .i64 (.var 1) (.int 1)))))
theorem fact4 (ρ : Env) : E.B ρ f4 = true := by
  unfold f4
  simp only [sm_I_int, sm_I_mn, sm_I_mx, sm_I_add_u64, sm_I_sub_u64, sm_I_add_i64, sm_I_sub_i64, sm_I_mul_i64, sm_I_fn6, sm_I_fn7, sm_I_fn8, sm_B_bool, sm_B_eql, sm_B_lss, sm_B_not, sm_B_and, sm_B_imp, sm_B_iff]
  rintro ⟨p0, p1, p2, p3, p4⟩
  try generalize E.I ρ (.var 1) = x0 at *
  try generalize E.I ρ (.var 0) = x1 at *
  obtain ⟨y0, e0, q0, h0⟩ := cs_i64 (x0 + 1)
  try simp only [e0] at *
  omega
noncomputable def f5 : E := (.imp (.cmp .eql (.var 1) (.int 0)) (.cmp .eql (.mn (.ar .add .i64 (.var 1) (.int 1)) (.int 10000)) (.int 1)))
theorem fact5 (ρ : Env) : E.B ρ f5 = true := by
  unfold f5
  simp only [sm_I_int, sm_I_mn, sm_I_mx, sm_I_add_u64, sm_I_sub_u64, sm_I_add_i64, sm_I_sub_i64, sm_I_mul_i64, sm_I_fn6, sm_I_fn7, sm_I_fn8, sm_B_bool, sm_B_eql, sm_B_lss, sm_B_not, sm_B_and, sm_B_imp, sm_B_iff]
  intro p0
  try generalize E.I ρ (.var 1) = x0 at *
  obtain ⟨y0, e0, q0, h0⟩ := cs_i64 (x0 + 1)
  try simp only [e0] at *
  omega
noncomputable def f6 : E := (.imp (.and (.cmp .eql (.var 1) (.int 0)) (.and (.not (.cmp .lss (.var 0) (.int 9998))) (.not (.cmp .lss (.int 10002) (.var 0))))) (.cmp .lss (.fn 7 (.pr (.var 0) (.ar .add .i64 (.var 1) (.int 1)))) (.fn 7 (.pr (.var 0) (.var 1)))))
theorem fact6 (ρ : Env) : E.B ρ f6 = true := by
  unfold f6
  simp only [sm_I_int, sm_I_mn, sm_I_mx, sm_I_add_u64, sm_I_sub_u64, sm_I_add_i64, sm_I_sub_i64, sm_I_mul_i64, sm_I_fn6, sm_I_fn7, sm_I_fn8, sm_B_bool, sm_B_eql, sm_B_lss, sm_B_not, sm_B_and, sm_B_imp, sm_B_iff]
  rintro ⟨p0, p1, p2⟩
  try generalize E.I ρ (.var 1) = x0 at *
  try generalize E.I ρ (.var 0) = x1 at *
  obtain ⟨y0, e0, q0, h0⟩ := cs_i64 (x0 + 1)
  try simp only [e0] at *
  omega
noncomputable def f7 : E := (.imp (.and (.cmp .eql (.var 1) (.int 0)) (.and (.not (.cmp .lss (.int 9223372036854775807) (.var 0))) (.and (.not (.cmp .lss (.var 0) (.int (-9223372036854775808)))) (.and (.not (.cmp .lss (.var 0) (.int 9998))) (.not (.cmp .lss (.int 10002) (.var 0))))))) (.not (.cmp .lss (.fn 7 (.pr (.var 0) (.ar .add .i64 (.var 1) (.int 1)))) (.int 0))))
theorem fact7 (ρ : Env) : E.B ρ f7 = true := by
  unfold f7
  simp only [sm_I_int, sm_I_mn, sm_I_mx, sm_I_add_u64, sm_I_sub_u64, sm_I_add_i64, sm_I_sub_i64, sm_I_mul_i64, sm_I_fn6, sm_I_fn7, sm_I_fn8, sm_B_bool, sm_B_eql, sm_B_lss, sm_B_not, sm_B_and, sm_B_imp, sm_B_iff]
  rintro ⟨p0, p1, p2, p3, p4⟩
  try generalize E.I ρ (.var 1) = x0 at *
  try generalize E.I ρ (.var 0) = x1 at *
  obtain ⟨y0, e0, q0, h0⟩ := cs_i64 (x0 + 1)
  try simp only [e0] at *
  omega
noncomputable def f8 : E := (.imp (.and (.cmp .eql (.fn 6 (.pr (.var 3) (.int 1))) (.var 5)) (.and (.cmp .eql (.var 5) (.mn (.var 1) (.int 10000))) (.and (.cmp .lss (.var 1) (.var 0)) (.and (.not (.cmp .lss (.int 10000) (.var 5))) (.and (.not (.cmp .lss (.var 5) (.int 0))) (.and (.not (.cmp .lss (.int 9999) (.var 3))) (.and (.not (.cmp .lss (.var 3) (.int 0))) (.and (.not (.cmp .lss (.int 10002) (.var 1))) (.and (.not (.cmp .lss (.var 1) (.int 1))) (.and (.not (.cmp .lss (.var 0) (.int 9998))) (.not (.cmp .lss (.int 10002) (.var 0))))))))))))) (.not (.cmp .lss (.ar .add .i64 (.var 1) (.int 1)) (.int 1))))
theorem fact8 (ρ : Env) : E.B ρ f8 = true := by
  unfold f8
  simp only [sm_I_int, sm_I_mn, sm_I_mx, sm_I_add_u64, sm_I_sub_u64, sm_I_add_i64, sm_I_sub_i64, sm_I_mul_i64, sm_I_fn6, sm_I_fn7, sm_I_fn8, sm_B_bool, sm_B_eql, sm_B_lss, sm_B_not, sm_B_and, sm_B_imp, sm_B_iff]
  rintro ⟨p0, p1, p2, p3, p4, p5, p6, p7, p8, p9, p10⟩
  try generalize E.I ρ (.var 3) = x0 at *
  try generalize E.I ρ (.var 5) = x1 at *
  try generalize E.I ρ (.var 1) = x2 at *
  try generalize E.I ρ (.var 0) = x3 at *
  obtain ⟨y0, e0, q0, h0⟩ := cs_i64 (x2 + 1)
  try simp only [e0] at *
  omega
noncomputable def f9 : E := (.imp (.and (.cmp .eql (.var 5) (.mn (.var 1) (.int 10000))) (.and (.not (.cmp .lss (.var 1) (.int 10000))) (.and (.not (.cmp .eql (.var 5) (.int 10000))) (.and (.not (.cmp .lss (.int 10000) (.var 5))) (.and (.not (.cmp .lss (.var 5) (.int 0))) (.and (.not (.cmp .lss (.int 10002) (.var 1))) (.not (.cmp .lss (.var 1) (.int 1))))))))) (.cmp .eql (.var 5) (.int 0)))
theorem fact9 (ρ : Env) : E.B ρ f9 = true := by
  unfold f9
  simp only [sm_I_int, sm_I_mn, sm_I_mx, sm_I_add_u64, sm_I_sub_u64, sm_I_add_i64, sm_I_sub_i64, sm_I_mul_i64, sm_I_fn6, sm_I_fn7, sm_I_fn8, sm_B_bool, sm_B_eql, sm_B_lss, sm_B_not, sm_B_and, sm_B_imp, sm_B_iff]
  rintro ⟨p0, p1, p2, p3, p4, p5, p6⟩
  try generalize E.I ρ (.var 5) = x0 at *
  try generalize E.I ρ (.var 1) = x1 at *
  omega
noncomputable def f10 : E := (.imp (.and (.cmp .eql (.var 5) (.mn (.var 1) (.int 10000))) (.and (.not (.cmp .lss (.var 1) (.int 10000))) (.and (.not (.cmp .lss (.int 10000) (.var 5))) (.and (.not (.cmp .lss (.var 5) (.int 0))) (.and (.not (.cmp .lss (.int 10002) (.var 1))) (.not (.cmp .lss (.var 1) (.int 1)))))))) (.not (.cmp .eql (.var 5) (.int 0))))
theorem fact10 (ρ : Env) : E.B ρ f10 = true := by
  unfold f10
  simp only [sm_I_int, sm_I_mn, sm_I_mx, sm_I_add_u64, sm_I_sub_u64, sm_I_add_i64, sm_I_sub_i64, sm_I_mul_i64, sm_I_fn6, sm_I_fn7, sm_I_fn8, sm_B_bool, sm_B_eql, sm_B_lss, sm_B_not, sm_B_and, sm_B_imp, sm_B_iff]
  rintro ⟨p0, p1, p2, p3, p4, p5⟩
  try generalize E.I ρ (.var 5) = x0 at *
  try generalize E.I ρ (.var 1) = x1 at *
  omega
noncomputable def f11 : E := (.imp (.and (.cmp .eql (.var 5) (.mn (.var 1) (.int 10000))) (.and (.cmp .lss (.var 1) (.int 10000)) (.and (.not (.cmp .lss (.int 10000) (.var 5))) (.and (.not (.cmp .lss (.var 5) (.int 0))) (.and (.not (.cmp .lss (.int 10002) (.var 1))) (.not (.cmp .lss (.var 1) (.int 1)))))))) (.not (.cmp .eql (.var 5) (.int 10000))))
theorem fact11 (ρ : Env) : E.B ρ f11 = true := by
  unfold f11
  simp only [sm_I_int, sm_I_mn, sm_I_mx, sm_I_add_u64, sm_I_sub_u64, sm_I_add_i64, sm_I_sub_i64, sm_I_mul_i64, sm_I_fn6, sm_I_fn7, sm_I_fn8, sm_B_bool, sm_B_eql, sm_B_lss, sm_B_not, sm_B_and, sm_B_imp, sm_B_iff]
  rintro ⟨p0, p1, p2, p3, p4, p5⟩
  try generalize E.I ρ (.var 5) = x0 at *
  try generalize E.I ρ (.var 1) = x1 at *
  omega
noncomputable def f12 : E := (.imp (.and (.cmp .eql (.var 5) (.mn (.var 1) (.int 10000))) (.and (.cmp .lss (.var 1) (.int 10000)) (.and (.not (.cmp .lss (.int 10000) (.var 5))) (.and (.not (.cmp .lss (.var 5) (.int 0))) (.and (.not (.cmp .lss (.int 10002) (.var 1))) (.not (.cmp .lss (.var 1) (.int 1)))))))) (.cmp .eql (.var 5) (.var 1)))
theorem fact12 (ρ : Env) : E.B ρ f12 = true := by
  unfold f12
  simp only [sm_I_int, sm_I_mn, sm_I_mx, sm_I_add_u64, sm_I_sub_u64, sm_I_add_i64, sm_I_sub_i64, sm_I_mul_i64, sm_I_fn6, sm_I_fn7, sm_I_fn8, sm_B_bool, sm_B_eql, sm_B_lss, sm_B_not, sm_B_and, sm_B_imp, sm_B_iff]
  rintro ⟨p0, p1, p2, p3, p4, p5⟩
  try generalize E.I ρ (.var 5) = x0 at *
  try generalize E.I ρ (.var 1) = x1 at *
  omega
noncomputable def f13 : E := (.imp (.and (.cmp .eql (.fn 6 (.pr (.var 3) (.int 1))) (.var 5)) (.and (.cmp .eql (.var 5) (.var 3)) (.and (.not (.cmp .lss (.int 10000) (.var 5))) (.and (.not (.cmp .lss (.var 5) (.int 0))) (.and (.not (.cmp .lss (.int 9999) (.var 3))) (.and (.not (.cmp .lss (.var 3) (.int 0))) (.and (.not (.cmp .lss (.int 10002) (.var 1))) (.not (.cmp .lss (.var 1) (.int 1)))))))))) (.not (.cmp .lss (.var 1) (.ar .add .i64 (.var 5) (.int 1)))))
theorem fact13 (ρ : Env) : E.B ρ f13 = true := by
  unfold f13
  simp only [sm_I_int, sm_I_mn, sm_I_mx, sm_I_add_u64, sm_I_sub_u64, sm_I_add_i64, sm_I_sub_i64, sm_I_mul_i64, sm_I_fn6, sm_I_fn7, sm_I_fn8, sm_B_bool, sm_B_eql, sm_B_lss, sm_B_not, sm_B_and, sm_B_imp, sm_B_iff]
  rintro ⟨p0, p1, p2, p3, p4, p5, p6, p7⟩
  try generalize E.I ρ (.var 3) = x0 at *
  try generalize E.I ρ (.var 5) = x1 at *
  try generalize E.I ρ (.var 1) = x2 at *
  obtain ⟨y0, e0, q0, h0⟩ := cs_i64 (x1 + 1)
  try simp only [e0] at *
  omega
noncomputable def f14 : E := (.imp (.and (.cmp .eql (.var 5) (.mn (.var 1) (.int 10000))) (.and (.cmp .lss (.var 1) (.int 10000)) (.and (.not (.cmp .lss (.int 10000) (.var 5))) (.and (.not (.cmp .lss (.var 5) (.int 0))) (.and (.not (.cmp .lss (.int 10002) (.var 1))) (.not (.cmp .lss (.var 1) (.int 1)))))))) (.cmp .lss (.var 1) (.ar .add .i64 (.var 5) (.int 1))))
theorem fact14 (ρ : Env) : E.B ρ f14 = true := by
  unfold f14
  simp only [sm_I_int, sm_I_mn, sm_I_mx, sm_I_add_u64, sm_I_sub_u64, sm_I_add_i64, sm_I_sub_i64, sm_I_mul_i64, sm_I_fn6, sm_I_fn7, sm_I_fn8, sm_B_bool, sm_B_eql, sm_B_lss, sm_B_not, sm_B_and, sm_B_imp, sm_B_iff]
  rintro ⟨p0, p1, p2, p3, p4, p5⟩
  try generalize E.I ρ (.var 5) = x0 at *
  try generalize E.I ρ (.var 1) = x1 at *
  obtain ⟨y0, e0, q0, h0⟩ := cs_i64 (x0 + 1)
  try simp only [e0] at *
  omega
noncomputable def f15 : E := (.imp (.and (.cmp .eql (.var 3) (.var 6)) (.and (.cmp .eql (.fn 6 (.pr (.var 3) (.int 1))) (.var 5)) (.and (.cmp .eql (.var 5) (.mn (.var 1) (.int 10000))) (.and (.cmp .lss (.var 1) (.int 10000)) (.and (.not (.cmp .lss (.int 9999) (.var 6))) (.and (.not (.cmp .lss (.var 6) (.int 0))) (.and (.not (.cmp .lss (.int 10000) (.var 5))) (.and (.not (.cmp .lss (.var 5) (.int 0))) (.and (.not (.cmp .lss (.int 9999) (.var 3))) (.and (.not (.cmp .lss (.var 3) (.int 0))) (.and (.not (.cmp .lss (.int 10002) (.var 1))) (.not (.cmp .lss (.var 1) (.int 1)))))))))))))) (.cmp .eql (.var 6) (.ar .sub .i64 (.var 1) (.int 1))))
theorem fact15 (ρ : Env) : E.B ρ f15 = true := by
  unfold f15
  simp only [sm_I_int, sm_I_mn, sm_I_mx, sm_I_add_u64, sm_I_sub_u64, sm_I_add_i64, sm_I_sub_i64, sm_I_mul_i64, sm_I_fn6, sm_I_fn7, sm_I_fn8, sm_B_bool, sm_B_eql, sm_B_lss, sm_B_not, sm_B_and, sm_B_imp, sm_B_iff]
  rintro ⟨p0, p1, p2, p3, p4, p5, p6, p7, p8, p9, p10, p11⟩
  try generalize E.I ρ (.var 3) = x0 at *
  try generalize E.I ρ (.var 6) = x1 at *
  try generalize E.I ρ (.var 5) = x2 at *
  try generalize E.I ρ (.var 1) = x3 at *
  obtain ⟨y0, e0, q0, h0⟩ := cs_i64 (x3 - 1)
  try simp only [e0] at *
  omega
noncomputable def f16 : E := (.imp (.and (.cmp .eql (.var 5) (.mn (.var 1) (.int 10000))) (.and (.not (.cmp .eql (.var 1) (.var 5))) (.and (.not (.cmp .lss (.int 10000) (.var 5))) (.and (.not (.cmp .lss (.var 5) (.int 0))) (.and (.not (.cmp .lss (.int 10002) (.var 1))) (.not (.cmp .lss (.var 1) (.int 1)))))))) (.not (.cmp .lss (.var 1) (.ar .add .i64 (.var 5) (.int 1)))))
theorem fact16 (ρ : Env) : E.B ρ f16 = true := by
  unfold f16
  simp only [sm_I_int, sm_I_mn, sm_I_mx, sm_I_add_u64, sm_I_sub_u64, sm_I_add_i64, sm_I_sub_i64, sm_I_mul_i64, sm_I_fn6, sm_I_fn7, sm_I_fn8, sm_B_bool, sm_B_eql, sm_B_lss, sm_B_not, sm_B_and, sm_B_imp, sm_B_iff]
  rintro ⟨p0, p1, p2, p3, p4, p5⟩
  try generalize E.I ρ (.var 5) = x0 at *
  try generalize E.I ρ (.var 1) = x1 at *
  obtain ⟨y0, e0, q0, h0⟩ := cs_i64 (x0 + 1)
  try simp only [e0] at *
  omega
noncomputable def f17 : E := (.imp (.and (.cmp .eql (.var 3) (.var 6)) (.and (.cmp .eql (.fn 6 (.pr (.var 3) (.int 1))) (.var 5)) (.and (.cmp .eql (.var 5) (.mn (.var 1) (.int 10000))) (.and (.not (.cmp .lss (.var 0) (.var 1))) (.and (.not (.cmp .lss (.int 9223372036854775807) (.var 0))) (.and (.not (.cmp .lss (.var 0) (.int (-9223372036854775808)))) (.and (.cmp .lss (.var 1) (.var 0)) (.and (.not (.cmp .lss (.var 1) (.int 10000))) (.and (.cmp .eql (.var 5) (.int 10000)) (.and (.not (.cmp .lss (.int 9999) (.var 6))) (.and (.not (.cmp .lss (.var 6) (.int 0))) (.and (.not (.cmp .lss (.int 10000) (.var 5))) (.and (.not (.cmp .lss (.var 5) (.int 0))) (.and (.not (.cmp .lss (.int 9999) (.var 3))) (.and (.not (.cmp .lss (.var 3) (.int 0))) (.and (.not (.cmp .lss (.int 10002) (.var 1))) (.and (.not (.cmp .lss (.var 1) (.int 1))) (.and (.not (.cmp .lss (.var 0) (.int 9998))) (.not (.cmp .lss (.int 10002) (.var 0))))))))))))))))))))) (.not (.cmp .lss (.int 10002) (.ar .add .i64 (.var 1) (.int 1)))))
theorem fact17 (ρ : Env) : E.B ρ f17 = true := by
  unfold f17
  simp only [sm_I_int, sm_I_mn, sm_I_mx, sm_I_add_u64, sm_I_sub_u64, sm_I_add_i64, sm_I_sub_i64, sm_I_mul_i64, sm_I_fn6, sm_I_fn7, sm_I_fn8, sm_B_bool, sm_B_eql, sm_B_lss, sm_B_not, sm_B_and, sm_B_imp, sm_B_iff]
  rintro ⟨p0, p1, p2, p3, p4, p5, p6, p7, p8, p9, p10, p11, p12, p13, p14, p15, p16, p17, p18⟩
  try generalize E.I ρ (.var 3) = x0 at *
  try generalize E.I ρ (.var 6) = x1 at *
  try generalize E.I ρ (.var 5) = x2 at *
  try generalize E.I ρ (.var 1) = x3 at *
  try generalize E.I ρ (.var 0) = x4 at *
  obtain ⟨y0, e0, q0, h0⟩ := cs_i64 (x3 + 1)
  try simp only [e0] at *
  omega
noncomputable def f18 : E := (.imp (.and (.cmp .eql (.fn 6 (.pr (.var 3) (.int 1))) (.var 5)) (.and (.not (.cmp .lss (.int 10000) (.var 5))) (.and (.not (.cmp .lss (.var 5) (.int 0))) (.and (.not (.cmp .lss (.int 9999) (.var 3))) (.not (.cmp .lss (.var 3) (.int 0))))))) (.not (.cmp .eql (.var 5) (.var 3))))
theorem fact18 (ρ : Env) : E.B ρ f18 = true := by
  unfold f18
  simp only [sm_I_int, sm_I_mn, sm_I_mx, sm_I_add_u64, sm_I_sub_u64, sm_I_add_i64, sm_I_sub_i64, sm_I_mul_i64, sm_I_fn6, sm_I_fn7, sm_I_fn8, sm_B_bool, sm_B_eql, sm_B_lss, sm_B_not, sm_B_and, sm_B_imp, sm_B_iff]
  rintro ⟨p0, p1, p2, p3, p4⟩
  try generalize E.I ρ (.var 3) = x0 at *
  try generalize E.I ρ (.var 5) = x1 at *
  omega
noncomputable def f19 : E := (.imp (.and (.cmp .eql (.var 5) (.mn (.var 1) (.int 10000))) (.and (.not (.cmp .lss (.var 1) (.int 10000))) (.and (.not (.cmp .eql (.var 5) (.int 10000))) (.and (.not (.cmp .lss (.int 10000) (.var 5))) (.and (.not (.cmp .lss (.var 5) (.int 0))) (.and (.not (.cmp .lss (.int 9999) (.var 3))) (.and (.not (.cmp .lss (.var 3) (.int 0))) (.and (.not (.cmp .lss (.int 10002) (.var 1))) (.not (.cmp .lss (.var 1) (.int 1))))))))))) (.cmp .eql (.var 5) (.var 3)))
theorem fact19 (ρ : Env) : E.B ρ f19 = true := by
  unfold f19
  simp only [sm_I_int, sm_I_mn, sm_I_mx, sm_I_add_u64, sm_I_sub_u64, sm_I_add_i64, sm_I_sub_i64, sm_I_mul_i64, sm_I_fn6, sm_I_fn7, sm_I_fn8, sm_B_bool, sm_B_eql, sm_B_lss, sm_B_not, sm_B_and, sm_B_imp, sm_B_iff]
  rintro ⟨p0, p1, p2, p3, p4, p5, p6, p7, p8⟩
  try generalize E.I ρ (.var 5) = x0 at *
  try generalize E.I ρ (.var 1) = x1 at *
  try generalize E.I ρ (.var 3) = x2 at *
  omega
noncomputable def f20 : E := (.imp (.and (.cmp .eql (.fn 6 (.pr (.var 3) (.int 1))) (.var 5)) (.and (.cmp .eql (.var 5) (.var 3)) (.and (.not (.cmp .lss (.int 10000) (.var 5))) (.and (.not (.cmp .lss (.var 5) (.int 0))) (.and (.not (.cmp .lss (.int 9999) (.var 3))) (.and (.not (.cmp .lss (.var 3) (.int 0))) (.and (.not (.cmp .lss (.int 10002) (.var 1))) (.not (.cmp .lss (.var 1) (.int 1)))))))))) (.cmp .eql (.var 1) (.var 3)))
theorem fact20 (ρ : Env) : E.B ρ f20 = true := by
  unfold f20
  simp only [sm_I_int, sm_I_mn, sm_I_mx, sm_I_add_u64, sm_I_sub_u64, sm_I_add_i64, sm_I_sub_i64, sm_I_mul_i64, sm_I_fn6, sm_I_fn7, sm_I_fn8, sm_B_bool, sm_B_eql, sm_B_lss, sm_B_not, sm_B_and, sm_B_imp, sm_B_iff]
  rintro ⟨p0, p1, p2, p3, p4, p5, p6, p7⟩
  try generalize E.I ρ (.var 3) = x0 at *
  try generalize E.I ρ (.var 5) = x1 at *
  try generalize E.I ρ (.var 1) = x2 at *
  omega
noncomputable def f21 : E := (.imp (.and (.cmp .lss (.var 1) (.int 10000)) (.and (.not (.cmp .lss (.int 10002) (.var 1))) (.not (.cmp .lss (.var 1) (.int 1))))) (.not (.cmp .lss (.int 10002) (.ar .add .i64 (.var 1) (.int 1)))))
theorem fact21 (ρ : Env) : E.B ρ f21 = true := by
  unfold f21
  simp only [sm_I_int, sm_I_mn, sm_I_mx, sm_I_add_u64, sm_I_sub_u64, sm_I_add_i64, sm_I_sub_i64, sm_I_mul_i64, sm_I_fn6, sm_I_fn7, sm_I_fn8, sm_B_bool, sm_B_eql, sm_B_lss, sm_B_not, sm_B_and, sm_B_imp, sm_B_iff]
  rintro ⟨p0, p1, p2⟩
  try generalize E.I ρ (.var 1) = x0 at *
  obtain ⟨y0, e0, q0, h0⟩ := cs_i64 (x0 + 1)
  try simp only [e0] at *
  omega
noncomputable def f22 : E := (.imp (.and (.cmp .eql (.var 5) (.mn (.var 1) (.int 10000))) (.and (.cmp .lss (.var 1) (.int 10000)) (.and (.not (.cmp .lss (.int 10000) (.var 5))) (.and (.not (.cmp .lss (.var 5) (.int 0))) (.and (.not (.cmp .lss (.int 10002) (.var 1))) (.not (.cmp .lss (.var 1) (.int 1)))))))) (.cmp .eql (.var 1) (.var 5)))
theorem fact22 (ρ : Env) : E.B ρ f22 = true := by
  unfold f22
  simp only [sm_I_int, sm_I_mn, sm_I_mx, sm_I_add_u64, sm_I_sub_u64, sm_I_add_i64, sm_I_sub_i64, sm_I_mul_i64, sm_I_fn6, sm_I_fn7, sm_I_fn8, sm_B_bool, sm_B_eql, sm_B_lss, sm_B_not, sm_B_and, sm_B_imp, sm_B_iff]
  rintro ⟨p0, p1, p2, p3, p4, p5⟩
  try generalize E.I ρ (.var 5) = x0 at *
  try generalize E.I ρ (.var 1) = x1 at *
  omega
noncomputable def f23 : E := (.imp (.and (.cmp .eql (.var 3) (.var 6)) (.and (.cmp .eql (.fn 6 (.pr (.var 3) (.int 1))) (.var 5)) (.and (.not (.cmp .lss (.int 9999) (.var 6))) (.and (.not (.cmp .lss (.var 6) (.int 0))) (.and (.not (.cmp .lss (.int 10000) (.var 5))) (.and (.not (.cmp .lss (.var 5) (.int 0))) (.and (.not (.cmp .lss (.int 9999) (.var 3))) (.not (.cmp .lss (.var 3) (.int 0)))))))))) (.not (.cmp .eql (.var 6) (.var 5))))
theorem fact23 (ρ : Env) : E.B ρ f23 = true := by
  unfold f23
  simp only [sm_I_int, sm_I_mn, sm_I_mx, sm_I_add_u64, sm_I_sub_u64, sm_I_add_i64, sm_I_sub_i64, sm_I_mul_i64, sm_I_fn6, sm_I_fn7, sm_I_fn8, sm_B_bool, sm_B_eql, sm_B_lss, sm_B_not, sm_B_and, sm_B_imp, sm_B_iff]
  rintro ⟨p0, p1, p2, p3, p4, p5, p6, p7⟩
  try generalize E.I ρ (.var 3) = x0 at *
  try generalize E.I ρ (.var 6) = x1 at *
  try generalize E.I ρ (.var 5) = x2 at *
  omega
noncomputable def f24 : E := (.imp (.and (.cmp .eql (.var 3) (.var 6)) (.and (.not (.cmp .eql (.var 6) (.var 3))) (.and (.not (.cmp .lss (.int 9999) (.var 6))) (.and (.not (.cmp .lss (.var 6) (.int 0))) (.and (.not (.cmp .lss (.int 10000) (.var 5))) (.and (.not (.cmp .lss (.var 5) (.int 0))) (.and (.not (.cmp .lss (.int 9999) (.var 3))) (.not (.cmp .lss (.var 3) (.int 0)))))))))) (.cmp .eql (.var 6) (.var 5)))
theorem fact24 (ρ : Env) : E.B ρ f24 = true := by
  unfold f24
  simp only [sm_I_int, sm_I_mn, sm_I_mx, sm_I_add_u64, sm_I_sub_u64, sm_I_add_i64, sm_I_sub_i64, sm_I_mul_i64, sm_I_fn6, sm_I_fn7, sm_I_fn8, sm_B_bool, sm_B_eql, sm_B_lss, sm_B_not, sm_B_and, sm_B_imp, sm_B_iff]
  rintro ⟨p0, p1, p2, p3, p4, p5, p6, p7⟩
  try generalize E.I ρ (.var 3) = x0 at *
  try generalize E.I ρ (.var 6) = x1 at *
  try generalize E.I ρ (.var 5) = x2 at *
  omega
noncomputable def f25 : E := (.imp (.and (.cmp .eql (.fn 6 (.pr (.var 3) (.int 1))) (.var 5)) (.and (.cmp .eql (.var 5) (.mn (.var 1) (.int 10000))) (.and (.not (.cmp .lss (.int 10000) (.var 5))) (.and (.not (.cmp .lss (.var 5) (.int 0))) (.and (.not (.cmp .lss (.int 9999) (.var 3))) (.and (.not (.cmp .lss (.var 3) (.int 0))) (.and (.not (.cmp .lss (.int 10002) (.var 1))) (.not (.cmp .lss (.var 1) (.int 1)))))))))) (.not (.cmp .eql (.var 1) (.var 3))))
theorem fact25 (ρ : Env) : E.B ρ f25 = true := by
  unfold f25
  simp only [sm_I_int, sm_I_mn, sm_I_mx, sm_I_add_u64, sm_I_sub_u64, sm_I_add_i64, sm_I_sub_i64, sm_I_mul_i64, sm_I_fn6, sm_I_fn7, sm_I_fn8, sm_B_bool, sm_B_eql, sm_B_lss, sm_B_not, sm_B_and, sm_B_imp, sm_B_iff]
  rintro ⟨p0, p1, p2, p3, p4, p5, p6, p7⟩
  try generalize E.I ρ (.var 3) = x0 at *
  try generalize E.I ρ (.var 5) = x1 at *
  try generalize E.I ρ (.var 1) = x2 at *
  omega
noncomputable def f26 : E := (.imp (.and (.cmp .lss (.var 1) (.var 0)) (.and (.not (.cmp .lss (.int 10002) (.var 1))) (.and (.not (.cmp .lss (.var 1) (.int 1))) (.and (.not (.cmp .lss (.var 0) (.int 9998))) (.not (.cmp .lss (.int 10002) (.var 0))))))) (.not (.cmp .lss (.var 0) (.ar .add .i64 (.var 1) (.int 1)))))
theorem fact26 (ρ : Env) : E.B ρ f26 = true := by
  unfold f26
  simp only [sm_I_int, sm_I_mn, sm_I_mx, sm_I_add_u64, sm_I_sub_u64, sm_I_add_i64, sm_I_sub_i64, sm_I_mul_i64, sm_I_fn6, sm_I_fn7, sm_I_fn8, sm_B_bool, sm_B_eql, sm_B_lss, sm_B_not, sm_B_and, sm_B_imp, sm_B_iff]
  rintro ⟨p0, p1, p2, p3, p4⟩
  try generalize E.I ρ (.var 1) = x0 at *
  try generalize E.I ρ (.var 0) = x1 at *
  obtain ⟨y0, e0, q0, h0⟩ := cs_i64 (x0 + 1)
  try simp only [e0] at *
  omega
noncomputable def f27 : E := (.imp (.and (.cmp .eql (.var 5) (.mn (.var 1) (.int 10000))) (.and (.not (.cmp .lss (.var 1) (.int 10000))) (.and (.not (.cmp .lss (.int 10000) (.var 5))) (.and (.not (.cmp .lss (.var 5) (.int 0))) (.and (.not (.cmp .lss (.int 10002) (.var 1))) (.not (.cmp .lss (.var 1) (.int 1)))))))) (.cmp .eql (.var 5) (.int 10000)))
theorem fact27 (ρ : Env) : E.B ρ f27 = true := by
  unfold f27
  simp only [sm_I_int, sm_I_mn, sm_I_mx, sm_I_add_u64, sm_I_sub_u64, sm_I_add_i64, sm_I_sub_i64, sm_I_mul_i64, sm_I_fn6, sm_I_fn7, sm_I_fn8, sm_B_bool, sm_B_eql, sm_B_lss, sm_B_not, sm_B_and, sm_B_imp, sm_B_iff]
  rintro ⟨p0, p1, p2, p3, p4, p5⟩
  try generalize E.I ρ (.var 5) = x0 at *
  try generalize E.I ρ (.var 1) = x1 at *
  omega
noncomputable def f28 : E := (.imp (.and (.cmp .eql (.var 5) (.mn (.var 1) (.int 10000))) (.and (.cmp .lss (.var 1) (.int 10000)) (.and (.not (.cmp .lss (.int 10000) (.var 5))) (.and (.not (.cmp .lss (.var 5) (.int 0))) (.and (.not (.cmp .lss (.int 10002) (.var 1))) (.not (.cmp .lss (.var 1) (.int 1)))))))) (.not (.cmp .lss (.int 9999) (.var 5))))
theorem fact28 (ρ : Env) : E.B ρ f28 = true := by
  unfold f28
  simp only [sm_I_int, sm_I_mn, sm_I_mx, sm_I_add_u64, sm_I_sub_u64, sm_I_add_i64, sm_I_sub_i64, sm_I_mul_i64, sm_I_fn6, sm_I_fn7, sm_I_fn8, sm_B_bool, sm_B_eql, sm_B_lss, sm_B_not, sm_B_and, sm_B_imp, sm_B_iff]
  rintro ⟨p0, p1, p2, p3, p4, p5⟩
  try generalize E.I ρ (.var 5) = x0 at *
  try generalize E.I ρ (.var 1) = x1 at *
  omega
noncomputable def f29 : E := (.imp (.and (.cmp .eql (.var 3) (.var 6)) (.and (.not (.cmp .lss (.int 9999) (.var 6))) (.and (.not (.cmp .lss (.var 6) (.int 0))) (.and (.not (.cmp .lss (.int 9999) (.var 3))) (.not (.cmp .lss (.var 3) (.int 0))))))) (.cmp .eql (.var 6) (.var 3)))
theorem fact29 (ρ : Env) : E.B ρ f29 = true := by
  unfold f29
  simp only [sm_I_int, sm_I_mn, sm_I_mx, sm_I_add_u64, sm_I_sub_u64, sm_I_add_i64, sm_I_sub_i64, sm_I_mul_i64, sm_I_fn6, sm_I_fn7, sm_I_fn8, sm_B_bool, sm_B_eql, sm_B_lss, sm_B_not, sm_B_and, sm_B_imp, sm_B_iff]
  rintro ⟨p0, p1, p2, p3, p4⟩
  try generalize E.I ρ (.var 3) = x0 at *
  try generalize E.I ρ (.var 6) = x1 at *
  omega
noncomputable def f30 : E := (.imp (.and (.cmp .eql (.var 3) (.var 6)) (.and (.cmp .eql (.fn 6 (.pr (.var 3) (.int 1))) (.var 5)) (.and (.cmp .eql (.var 5) (.mn (.var 1) (.int 10000))) (.and (.not (.cmp .lss (.var 0) (.var 1))) (.and (.not (.cmp .lss (.int 9223372036854775807) (.var 0))) (.and (.not (.cmp .lss (.var 0) (.int (-9223372036854775808)))) (.and (.cmp .lss (.var 1) (.var 0)) (.and (.not (.cmp .lss (.var 1) (.int 10000))) (.and (.not (.cmp .lss (.int 9999) (.var 6))) (.and (.not (.cmp .lss (.var 6) (.int 0))) (.and (.not (.cmp .lss (.int 10000) (.var 5))) (.and (.not (.cmp .lss (.var 5) (.int 0))) (.and (.not (.cmp .lss (.int 9999) (.var 3))) (.and (.not (.cmp .lss (.var 3) (.int 0))) (.and (.not (.cmp .lss (.int 10002) (.var 1))) (.and (.not (.cmp .lss (.var 1) (.int 1))) (.and (.not (.cmp .lss (.var 0) (.int 9998))) (.not (.cmp .lss (.int 10002) (.var 0)))))))))))))))))))) (.not (.cmp .lss (.int 10002) (.ar .add .i64 (.var 1) (.int 1)))))
theorem fact30 (ρ : Env) : E.B ρ f30 = true := by
  unfold f30
  simp only [sm_I_int, sm_I_mn, sm_I_mx, sm_I_add_u64, sm_I_sub_u64, sm_I_add_i64, sm_I_sub_i64, sm_I_mul_i64, sm_I_fn6, sm_I_fn7, sm_I_fn8, sm_B_bool, sm_B_eql, sm_B_lss, sm_B_not, sm_B_and, sm_B_imp, sm_B_iff]
  rintro ⟨p0, p1, p2, p3, p4, p5, p6, p7, p8, p9, p10, p11, p12, p13, p14, p15, p16, p17⟩
  try generalize E.I ρ (.var 3) = x0 at *
  try generalize E.I ρ (.var 6) = x1 at *
  try generalize E.I ρ (.var 5) = x2 at *
  try generalize E.I ρ (.var 1) = x3 at *
  try generalize E.I ρ (.var 0) = x4 at *
  obtain ⟨y0, e0, q0, h0⟩ := cs_i64 (x3 + 1)
  try simp only [e0] at *
  omega
noncomputable def f31 : E := (.imp (.and (.cmp .eql (.fn 6 (.pr (.var 3) (.int 1))) (.var 5)) (.and (.not (.cmp .lss (.int 10000) (.var 5))) (.and (.not (.cmp .lss (.var 5) (.int 0))) (.and (.not (.cmp .lss (.int 9999) (.var 3))) (.not (.cmp .lss (.var 3) (.int 0))))))) (.not (.cmp .lss (.ar .add .i64 (.var 5) (.int 1)) (.int 0))))
theorem fact31 (ρ : Env) : E.B ρ f31 = true := by
  unfold f31
  simp only [sm_I_int, sm_I_mn, sm_I_mx, sm_I_add_u64, sm_I_sub_u64, sm_I_add_i64, sm_I_sub_i64, sm_I_mul_i64, sm_I_fn6, sm_I_fn7, sm_I_fn8, sm_B_bool, sm_B_eql, sm_B_lss, sm_B_not, sm_B_and, sm_B_imp, sm_B_iff]
  rintro ⟨p0, p1, p2, p3, p4⟩
  try generalize E.I ρ (.var 3) = x0 at *
  try generalize E.I ρ (.var 5) = x1 at *
  obtain ⟨y0, e0, q0, h0⟩ := cs_i64 (x1 + 1)
  try simp only [e0] at *
  omega
noncomputable def f32 : E := (.imp (.and (.cmp .eql (.var 5) (.mn (.var 1) (.int 10000))) (.and (.cmp .lss (.var 1) (.var 0)) (.and (.not (.cmp .lss (.var 1) (.int 10000))) (.and (.not (.cmp .lss (.int 10000) (.var 5))) (.and (.not (.cmp .lss (.var 5) (.int 0))) (.and (.not (.cmp .lss (.int 10002) (.var 1))) (.and (.not (.cmp .lss (.var 1) (.int 1))) (.and (.not (.cmp .lss (.var 0) (.int 9998))) (.not (.cmp .lss (.int 10002) (.var 0))))))))))) (.cmp .eql (.var 5) (.mn (.ar .add .i64 (.var 1) (.int 1)) (.int 10000))))
theorem fact32 (ρ : Env) : E.B ρ f32 = true := by
  unfold f32
  simp only [sm_I_int, sm_I_mn, sm_I_mx, sm_I_add_u64, sm_I_sub_u64, sm_I_add_i64, sm_I_sub_i64, sm_I_mul_i64, sm_I_fn6, sm_I_fn7, sm_I_fn8, sm_B_bool, sm_B_eql, sm_B_lss, sm_B_not, sm_B_and, sm_B_imp, sm_B_iff]
  rintro ⟨p0, p1, p2, p3, p4, p5, p6, p7, p8⟩
  try generalize E.I ρ (.var 5) = x0 at *
  try generalize E.I ρ (.var 1) = x1 at *
  try generalize E.I ρ (.var 0) = x2 at *
  obtain ⟨y0, e0, q0, h0⟩ := cs_i64 (x1 + 1)
  try simp only [e0] at *
  omega
noncomputable def f33 : E := (.imp (.and (.cmp .eql (.var 5) (.mn (.var 1) (.int 10000))) (.and (.cmp .lss (.var 1) (.int 10000)) (.and (.not (.cmp .lss (.int 10000) (.var 5))) (.and (.not (.cmp .lss (.var 5) (.int 0))) (.and (.not (.cmp .lss (.int 10002) (.var 1))) (.not (.cmp .lss (.var 1) (.int 1)))))))) (.not (.cmp .lss (.int 10000) (.ar .add .i64 (.var 5) (.int 1)))))
theorem fact33 (ρ : Env) : E.B ρ f33 = true := by
  unfold f33
  simp only [sm_I_int, sm_I_mn, sm_I_mx, sm_I_add_u64, sm_I_sub_u64, sm_I_add_i64, sm_I_sub_i64, sm_I_mul_i64, sm_I_fn6, sm_I_fn7, sm_I_fn8, sm_B_bool, sm_B_eql, sm_B_lss, sm_B_not, sm_B_and, sm_B_imp, sm_B_iff]
  rintro ⟨p0, p1, p2, p3, p4, p5⟩
  try generalize E.I ρ (.var 5) = x0 at *
  try generalize E.I ρ (.var 1) = x1 at *
  obtain ⟨y0, e0, q0, h0⟩ := cs_i64 (x0 + 1)
  try simp only [e0] at *
  omega
noncomputable def f34 : E := (.imp (.and (.cmp .lss (.var 1) (.var 0)) (.and (.not (.cmp .lss (.int 10002) (.var 1))) (.and (.not (.cmp .lss (.var 1) (.int 1))) (.and (.not (.cmp .lss (.var 0) (.int 9998))) (.not (.cmp .lss (.int 10002) (.var 0))))))) (.cmp .lss (.fn 7 (.pr (.var 0) (.ar .add .i64 (.var 1) (.int 1)))) (.fn 7 (.pr (.var 0) (.var 1)))))
theorem fact34 (ρ : Env) : E.B ρ f34 = true := by
  unfold f34
  simp only [sm_I_int, sm_I_mn, sm_I_mx, sm_I_add_u64, sm_I_sub_u64, sm_I_add_i64, sm_I_sub_i64, sm_I_mul_i64, sm_I_fn6, sm_I_fn7, sm_I_fn8, sm_B_bool, sm_B_eql, sm_B_lss, sm_B_not, sm_B_and, sm_B_imp, sm_B_iff]
  rintro ⟨p0, p1, p2, p3, p4⟩
  try generalize E.I ρ (.var 1) = x0 at *
  try generalize E.I ρ (.var 0) = x1 at *
  obtain ⟨y0, e0, q0, h0⟩ := cs_i64 (x0 + 1)
  try simp only [e0] at *
  omega
noncomputable def f35 : E := (.imp (.and (.cmp .eql (.var 5) (.mn (.var 1) (.int 10000))) (.and (.cmp .lss (.var 1) (.int 10000)) (.and (.not (.cmp .lss (.int 10000) (.var 5))) (.and (.not (.cmp .lss (.var 5) (.int 0))) (.and (.not (.cmp .lss (.int 10002) (.var 1))) (.not (.cmp .lss (.var 1) (.int 1)))))))) (.cmp .eql (.ar .add .i64 (.var 5) (.int 1)) (.mn (.ar .add .i64 (.var 1) (.int 1)) (.int 10000))))
theorem fact35 (ρ : Env) : E.B ρ f35 = true := by
  unfold f35
  simp only [sm_I_int, sm_I_mn, sm_I_mx, sm_I_add_u64, sm_I_sub_u64, sm_I_add_i64, sm_I_sub_i64, sm_I_mul_i64, sm_I_fn6, sm_I_fn7, sm_I_fn8, sm_B_bool, sm_B_eql, sm_B_lss, sm_B_not, sm_B_and, sm_B_imp, sm_B_iff]
  rintro ⟨p0, p1, p2, p3, p4, p5⟩
  try generalize E.I ρ (.var 5) = x0 at *
  try generalize E.I ρ (.var 1) = x1 at *
  obtain ⟨y0, e0, q0, h0⟩ := cs_i64 (x0 + 1)
  try simp only [e0] at *
  obtain ⟨y1, e1, q1, h1⟩ := cs_i64 (x1 + 1)
  try simp only [e1] at *
  omega
noncomputable def f36 : E := (.imp (.and (.cmp .lss (.var 1) (.var 0)) (.and (.not (.cmp .lss (.int 10002) (.var 1))) (.and (.not (.cmp .lss (.var 1) (.int 1))) (.and (.not (.cmp .lss (.var 0) (.int 9998))) (.not (.cmp .lss (.int 10002) (.var 0))))))) (.not (.cmp .lss (.fn 7 (.pr (.var 0) (.ar .add .i64 (.var 1) (.int 1)))) (.int 0))))
theorem fact36 (ρ : Env) : E.B ρ f36 = true := by
  unfold f36
  simp only [sm_I_int, sm_I_mn, sm_I_mx, sm_I_add_u64, sm_I_sub_u64, sm_I_add_i64, sm_I_sub_i64, sm_I_mul_i64, sm_I_fn6, sm_I_fn7, sm_I_fn8, sm_B_bool, sm_B_eql, sm_B_lss, sm_B_not, sm_B_and, sm_B_imp, sm_B_iff]
  rintro ⟨p0, p1, p2, p3, p4⟩
  try generalize E.I ρ (.var 1) = x0 at *
  try generalize E.I ρ (.var 0) = x1 at *
  obtain ⟨y0, e0, q0, h0⟩ := cs_i64 (x0 + 1)
  try simp only [e0] at *
  omega
noncomputable def f37 : E := (.imp (.and (.cmp .eql (.fn 6 (.pr (.var 3) (.int 1))) (.var 5)) (.and (.not (.cmp .lss (.int 10000) (.var 5))) (.and (.not (.cmp .lss (.var 5) (.int 0))) (.and (.not (.cmp .lss (.int 9999) (.var 3))) (.not (.cmp .lss (.var 3) (.int 0))))))) (.cmp .eql (.fn 6 (.pr (.var 5) (.int 1))) (.ar .add .i64 (.var 5) (.int 1))))
theorem fact37 (ρ : Env) : E.B ρ f37 = true := by
  unfold f37
  simp only [sm_I_int, sm_I_mn, sm_I_mx, sm_I_add_u64, sm_I_sub_u64, sm_I_add_i64, sm_I_sub_i64, sm_I_mul_i64, sm_I_fn6, sm_I_fn7, sm_I_fn8, sm_B_bool, sm_B_eql, sm_B_lss, sm_B_not, sm_B_and, sm_B_imp, sm_B_iff]
  rintro ⟨p0, p1, p2, p3, p4⟩
  try generalize E.I ρ (.var 3) = x0 at *
  try generalize E.I ρ (.var 5) = x1 at *
  obtain ⟨y0, e0, q0, h0⟩ := cs_i64 (x1 + 1)
  try simp only [e0] at *
  omega
noncomputable def facts : List E := [f0, f1, f2, f3, f4, f5, f6, f7, f8, f9, f10, f11, f12, f13, f14, f15, f16, f17, f18, f19, f20, f21, f22, f23, f24, f25, f26, f27, f28, f29, f30, f31, f32, f33, f34, f35, f36, f37]
theorem facts_ok : ∀ e ∈ facts, ∀ ρ : Env, E.B ρ e = true := (all_cons fact0 (all_cons fact1 (all_cons fact2 (all_cons fact3 (all_cons fact4 (all_cons fact5 (all_cons fact6 (all_cons fact7 (all_cons fact8 (all_cons fact9 (all_cons fact10 (all_cons fact11 (all_cons fact12 (all_cons fact13 (all_cons fact14 (all_cons fact15 (all_cons fact16 (all_cons fact17 (all_cons fact18 (all_cons fact19 (all_cons fact20 (all_cons fact21 (all_cons fact22 (all_cons fact23 (all_cons fact24 (all_cons fact25 (all_cons fact26 (all_cons fact27 (all_cons fact28 (all_cons fact29 (all_cons fact30 (all_cons fact31 (all_cons fact32 (all_cons fact33 (all_cons fact34 (all_cons fact35 (all_cons fact36 (all_cons fact37 all_nil))))))))))))))))))))))))))))))))))))))
end l0
set_option maxRecDepth 100000 in
theorem body0_0_0 : BodyOk Try.prog (ann1 (some y1)) y1 (t0).less (t0).tmps { (t0).st with pc := (t0).st.pc } :=
  body_of_check good (facts := l0.facts) l0.facts_ok (anns := []) (plainAnns_ok _ (by kernel_rfl)) (nats := natl1) natl1_ok (n := 3000) (by kernel_rfl) (by kernel_rfl)
theorem body0_0 : BodyOk Try.prog (ann1 (some y1)) y1 (t0).less (t0).tmps (t0).st := body0_0_0
set_option maxRecDepth 100000 in
theorem body0_1_0 : BodyOk Try.prog (ann1 (some y1)) y1 (t1).less (t1).tmps { (t1).st with pc := (t1).st.pc } :=
  body_of_check good (facts := l0.facts) l0.facts_ok (anns := []) (plainAnns_ok _ (by kernel_rfl)) (nats := natl1) natl1_ok (n := 3000) (by kernel_rfl) (by kernel_rfl)
theorem body0_1 : BodyOk Try.prog (ann1 (some y1)) y1 (t1).less (t1).tmps (t1).st := body0_1_0
theorem loop0 : LoopOk Try.prog (ann1 (some y1)) := loop_of_bodies rfl (by kernel_rfl) (by
  intro τ hτ
  rcases List.mem_cons.1 hτ with rfl | hτ
  · exact body0_0
  rcases List.mem_cons.1 hτ with rfl | hτ
  · exact body0_1
  cases hτ)
noncomputable def annsM : List Ann := [ann1 (some y1)]
theorem annsM_ok : ∀ x ∈ annsM, LoopOk Try.prog x := by
  intro x hx
  rcases List.mem_cons.1 hx with rfl | hx
  · exact loop0
  cases hx
namespace m
noncomputable def facts : List E := []
theorem facts_ok : ∀ e ∈ facts, ∀ ρ : Env, E.B ρ e = true := all_nil
end m
set_option maxRecDepth 100000 in
theorem reckoned : withTab Try.prog (fun tb => checkAll outTrue (run Try.prog (tb.plus m.facts annsM natl1) 3000 (.call 4 args) .nil (varSt 1 pc0) SX.one)) = true := by kernel_rfl

set_option maxRecDepth 100000 in
theorem walk {H : Type} (W : World) (base : Nat) (enc : TypeId × Value → H) (v0 : Value) (d0 : DataW H) (p0 : List MemPlace)
    (o0 : Value.okWide Try.prog W .any base 3 v0) (h0 : DataW.Trod enc Try.prog W 0 (fun _ => true) true 3 v0 d0 p0) :
    Calls Try.prog 4 #[v0] W fun e W' => e = .returned (.bool true) ∧ Below W.heap.size W W' := by
  obtain ⟨x0, rfl, _, _, w0⟩ := open_int Try.underlying3 o0 h0
  have r0 := wf_i64 w0

  refine true_of_check2 good (facts := m.facts) m.facts_ok (anns := annsM) annsM_ok natl1_ok (vs := [.int x0]) (pc := pc0) reckoned ?_ W ⟨trivial, trivial⟩
  unfold pc0
  try simp only [u64R, i64R, List.cons_append, List.nil_append]
  repeat' (refine pc_cons ?_ ?_)
  all_goals first
    | exact pc_nil
    | (first | fail | skip; done)
    | (simp only [eLe, eLt, eV, Env.of, sm_I_int, sm_I_var, sm_B_lss, sm_B_not, getD_cons_zero, getD_cons_succ, toI_int]; omega)

set_option maxRecDepth 100000 in
theorem lifted (os : Os) (started : os.Started) (H : Type) (enc : TypeId × Value → H) :
    ReturnsInHanded {} Try.checked os 4 .any (Rows.sessionFullsSpec.pre6 enc Try.prog Try.f4 Rows.sessionFullsRow.domain false) (Rows.sessionFullsSpec.post enc Try.prog Try.f4 false true false false) := by
  refine returnsInHanded_of_change (C := Try.checked) own started (by kernel_rfl) Try.func4
    (ChangeSpec.witness6 (enc := enc) (C := Try.checked) false ⟨#[], #[.int .i64 0], []⟩ 8 (by kernel_rfl) (by kernel_rfl) (by kernel_rfl) (by kernel_rfl)) ?_
  intro W base args ds gs before hval0 hW hcnd _
  have hval : ∀ (j : Nat) t v, Try.f4.params[j]? = some t → args[j]? = some v → Value.okWide Try.prog W .any base t v := hval0
  have hW' := hW
  obtain ⟨p, q, hA0, hV, rfl, hfz, hnd⟩ := hW
  have hA : DataW.TrodAll enc Try.prog W 0 (fun _ => true) true Try.f4.params.toList args.toList ds p := hA0
  rw [Try.params4] at hA hval
  obtain ⟨v0, vs0, d0, ds0, p0, q0, hargs, rfl, rfl, h0, r0⟩ := trodAll_cons hA
  obtain ⟨rfl, rfl, rfl⟩ := trodAll_nil r0
  obtain rfl : args = #[v0] := by cases args; simp_all
  obtain ⟨rfl, rfl⟩ := trodVars_none hV
  have lt0 : ∀ x ∈ p0, x.block < W.heap.size := by obtain ⟨m, hm⟩ := h0; exact DataW.trod_lt m _ _ _ hm
  have o0 := hval 0 3 v0 rfl rfl
  clear hA0 hval0
  refine (walk W base enc v0 d0 p0 o0 h0).mono fun e W' ⟨he, bel⟩ => ?_
  subst he
  exact ⟨_, rfl, _, _, _, [], _, [], hW', trodAll_mk1 (shut_bool Try.underlying4 _), (trodAll_cons_mk (Below.trod laidOut (by kernel_rfl) (of_decide_eq_true (by kernel_rfl)) h0 bel lt0) trodAll_mk0), rfl, bel.frame _, fun h => by cases h⟩

theorem over : Rows.sessionFullsRow.holds Try.pinned (OpenSpec.ofChange Rows.sessionFullsSpec) :=
  OpenClaim.holds_of_wide 4 Try.f4 rfl rfl rfl rfl rfl rfl rfl ⟨rfl, rfl, rfl, rfl, rfl⟩ rfl rfl rfl rfl rfl (by kernel_rfl) Try.func4 (by kernel_rfl)
    (of_decide_eq_true (by kernel_rfl)) (by unfold Func.isWrapper; first | (rw [if_pos (by decide +kernel)]; kernel_rfl) | (rw [if_neg (by decide +kernel)]; exact ⟨rfl, rfl⟩))
    (fun os started H enc _ => lifted os started H enc)

theorem proved : Rows.SessionFullsSaid := over

end Go.Proofs.Ytphcdmgmeiefhaa.sessionFulls

/-
  SessionHolds: one reckoning by the kernel, with what is known at the loops' heads, contracts of functions, and facts of arithmetic.
-/
import Derived.Test.YtphcdmgmeiefhaaRows
import Derived.Test.YtphcdmgmeiefhaaTheory
import Derived.WalkKit
import Derived.ProofKit
import Derived.OpenShut
import Derived.ChangeOld
import Derived.Below
import Derived.KernelRfl
import Derived.Lib.SmallJoins
namespace Go.Proofs.Ytphcdmgmeiefhaa.sessionHolds
open Go.ChangeShapes Go.WideShapes Go.ChangeAt Go.RowKit
open Go.SX
set_option linter.unusedVariables false
set_option linter.unusedSimpArgs false
set_option maxRecDepth 100000
theorem own : ownKnob Try.prog.godebug = none := by kernel_rfl
theorem laidOut : laidOutB Try.prog = true := by kernel_rfl
theorem good : progOk Try.prog = true := by kernel_rfl


noncomputable def ii (e : E) : SV := .int .i64 e
noncomputable def gone : Blk := ⟨true, .gone⟩
noncomputable def nn : E := .fn 9 (.pr (.var 2) (.int 4))
noncomputable def ks : List CK := [.int .i64, .int .i64, .int .i64, .str]
noncomputable def lst : SV := .bsl ks (.var 2)
noncomputable def typ (i : Nat) : E := .fn 27 (.pr (mkList [.int 3, .int 3, .int 3, .int 9]) (.var i))
noncomputable def pc0 : List E := [typ 2]
noncomputable def args : List SV := [.str (.var 0), .str (.var 1), lst]
noncomputable def nnF : E := .fn 9 (.pr (.var 0) (.int 4))
noncomputable def few : Pact := ⟨16, [.bsl ks (.var 0)], ⟨1, 0, .nil, [typ 0]⟩, [(.bool (eLe nnF (.int 80)), ⟨1, 0, .nil, []⟩), (.bool (.bool false), ⟨1, 0, .nil, []⟩)]⟩
noncomputable def tfew : Tmpl := ⟨tmSlots 24 [(0, .bsl ks (.var 0)), (3, ii (eV 1))], ⟨2, 0, .nil, [typ 0, eLe (.int 0) (eV 1), eLe (eV 1) nnF]⟩, .fn 7 (.pr nnF (eV 1))⟩
noncomputable def annfew : Ann := ⟨16, 0, [tfew], none⟩
noncomputable def at0 (b : Nat) : SV := .ptr b ⟨0, 0, .int 0⟩
/-- tokens that are allowed -/
noncomputable def valid : List E := [.not (.seq (eV 0) (eV 1)), .not (eLt (.int 32) (.fn 13 (eV 1))), .not (eLt (.fn 13 (eV 1)) (.int 4)), .not (eLt (.int 32) (.fn 13 (eV 0))), .not (eLt (.fn 13 (eV 0)) (.int 4)), eLe nn (.int 80)]
noncomputable def toks : Blk := ⟨true, .cells [.str (eV 0), .str (eV 1)] (.int 2) 27⟩
noncomputable def loopPc (i : Nat) : List E := [eLe (.int 0) (eV i), eLe (eV i) (.int 80), eLe (eV i) nn] ++ valid ++ pc0
/-- from variable v on: the map, what is dead, the two, how many were made, who was right -/
noncomputable def relE (v : Nat) : E := .fn 111 (.pr (eV v) (.pr (eV (v + 1)) (.pr (eV (v + 2)) (.pr (eV (v + 3)) (.pr (eV (v + 4)) (.pr (eV (v + 5)) (eV (v + 6))))))))
noncomputable def blks (v : Nat) : List Blk := [toks, gone, ⟨true, .mapl .i64 (.int .i64) (eV v)⟩, ⟨true, .cells [.str (eV 0), .str (eV 1), .map 2, ii (eV (v + 2)), ii (eV (v + 3)), ii (eV (v + 4))] (.int 6) 65⟩, ⟨true, .mapl .i64 .bool (eV (v + 1))⟩, ⟨true, .cells [.bool (eV (v + 5)), .bool (eV (v + 6))] (.int 2) 43⟩]
noncomputable def slotsAt (v i : Nat) : List (Nat × SV) := [(2, lst), (7, at0 0), (8, at0 3), (10, .map 4), (11, ii (eV (v + 4))), (12, at0 5), (13, ii (eV i))]
noncomputable def t0 : Tmpl := ⟨tmSlots 202 (slotsAt 4 3), ⟨11, 6, heapL (blks 4), [relE 4, eLe (.int 0) (eV 8), eLe (eV 8) (eV 3)] ++ loopPc 3⟩, .fn 7 (.pr nn (eV 3))⟩
noncomputable def ann1 (y : Option LoopX) : Ann := ⟨5, 0, [t0], y⟩
noncomputable def y1 : LoopX := ⟨3, 6, [⟨.exit 0, tmSlots 202 [], ⟨3, 6, .nil, []⟩⟩]⟩
/-- the inner loop: its variables are beyond all others -/
noncomputable def W : Nat := 20
noncomputable def iv (k : Nat) : E := eV (W + k)
noncomputable def t1 : Tmpl := ⟨tmSlots 202 (slotsAt (W + 1) 3 ++ [(23, at0 16), (24, ii (iv 8))]), ⟨W + 11, 17, heapL (blks (W + 1) ++ List.replicate 10 gone ++ [⟨true, .cells [ii (iv 9), ii (iv 10)] (.int 2) 52⟩]),
  [relE (W + 1), eLe (.int 0) (iv 5), eLe (iv 5) (.fn 6 (.pr (eV 3) (.int 1))), eLe (.int 0) (iv 8), eLe (iv 8) (iv 5), .cmp .eql (iv 9) (.fn 112 (.pr (iv 3) (iv 8))), .cmp .eql (iv 10) (.fn 112 (.pr (iv 4) (iv 8))), eLt (eV 3) nn] ++ loopPc 3⟩, .fn 7 (.pr (iv 5) (iv 8))⟩
noncomputable def annI : Ann := ⟨5, 3, [t1], none⟩
noncomputable def what (k : Int) : E := .cmp .eql (.fn 1 (.pr (.var 2) (.fn 6 (.pr (.fn 8 (.pr (.var 3) (.int 4))) (.int 0))))) (.int k)
/-- equality of strings: both ways -/
noncomputable def tokA : E := .fn 1 (.pr (.var 2) (.fn 6 (.pr (.fn 8 (.pr (.var 3) (.int 4))) (.int 3))))
noncomputable def strHints : List E := [.seq (eV 0) (eV 0), .seq (eV 1) (eV 1), .imp (.not (.seq (eV 0) (eV 1))) (.not (.seq (eV 1) (eV 0))),
  .imp (.seq (eV 0) tokA) (.seq tokA (eV 0)), .imp (.seq (eV 1) tokA) (.seq tokA (eV 1)), .imp (.not (.seq (eV 0) tokA)) (.not (.seq tokA (eV 0))), .imp (.not (.seq (eV 1) tokA)) (.not (.seq tokA (eV 1))),
  .imp (.seq tokA (eV 0)) (.seq (eV 0) tokA), .imp (.seq tokA (eV 1)) (.seq (eV 1) tokA), .imp (.not (.seq tokA (eV 0))) (.not (.seq (eV 0) tokA)), .imp (.not (.seq tokA (eV 1))) (.not (.seq (eV 1) tokA)),
  .imp (.and (.seq (eV 0) tokA) (.not (.seq (eV 0) (eV 1)))) (.not (.seq (eV 1) tokA)), .imp (.and (.seq (eV 1) tokA) (.not (.seq (eV 0) (eV 1)))) (.not (.seq (eV 0) tokA)),
  .imp (.and (.seq tokA (eV 0)) (.not (.seq (eV 0) (eV 1)))) (.not (.seq tokA (eV 1))), .imp (.and (.seq tokA (eV 1)) (.not (.seq (eV 0) (eV 1)))) (.not (.seq tokA (eV 0)))]

noncomputable def natl0 : List Nat1 := nats
theorem natl0_ok : ∀ x ∈ natl0, NatOk Try.prog x := nats_ok

set_option maxRecDepth 100000 in
theorem reckoned0 : withTab Try.prog (fun tb => checkAll outTrue (run Try.prog (tb.plus [] [] natl0) 3000 (.call 8 []) .nil (varSt 0 []) SX.one)) = true := by kernel_rfl
noncomputable def natl1 : List Nat1 := closedNat 8 :: natl0
theorem natl1_ok : ∀ x ∈ natl1, NatOk Try.prog x := by
  intro x hx
  rcases List.mem_cons.1 hx with rfl | hx
  · exact closed_of_check good (facts := []) all_nil (anns := []) (plainAnns_ok [] rfl) (nats := natl0) natl0_ok reckoned0
  · exact natl0_ok x hx

namespace p0
noncomputable def f0 : E := (.imp (.and (.cmp .lss (.var 1) (.int 81)) (.and (.not (.cmp .lss (.fn 9 (.pr (.var 0) (.int 4))) (.var 1))) (.not (.cmp .lss (.var 1) (.int 0))))) (.not (.cmp .lss (.ar .add .i64 (.var 1) (.int 1)) (.int 0))))
theorem fact0 (ρ : Env) : E.B ρ f0 = true := by
  unfold f0
  simp only [sm_I_int, sm_I_mn, sm_I_mx, sm_I_add_u64, sm_I_sub_u64, sm_I_add_i64, sm_I_sub_i64, sm_I_mul_i64, sm_I_fn6, sm_I_fn7, sm_I_fn8, sm_B_bool, sm_B_eql, sm_B_lss, sm_B_not, sm_B_and, sm_B_imp, sm_B_iff]
  rintro ⟨p0, p1, p2⟩
  try generalize E.I ρ (.var 1) = x0 at *
  try generalize E.I ρ (.fn 9 (.pr (.var 0) (.int 4))) = x1 at *
  obtain ⟨y0, e0, q0, h0⟩ := cs_i64 (x0 + 1)
  try simp only [e0] at *
  omega
noncomputable def f1 : E := (.imp (.and (.cmp .lss (.var 1) (.fn 9 (.pr (.var 0) (.int 4)))) (.and (.cmp .lss (.var 1) (.int 81)) (.and (.not (.cmp .lss (.fn 9 (.pr (.var 0) (.int 4))) (.var 1))) (.not (.cmp .lss (.var 1) (.int 0)))))) (.not (.cmp .lss (.fn 9 (.pr (.var 0) (.int 4))) (.ar .add .i64 (.var 1) (.int 1)))))
theorem fact1 (ρ : Env) : E.B ρ f1 = true := by
  unfold f1
  simp only [sm_I_int, sm_I_mn, sm_I_mx, sm_I_add_u64, sm_I_sub_u64, sm_I_add_i64, sm_I_sub_i64, sm_I_mul_i64, sm_I_fn6, sm_I_fn7, sm_I_fn8, sm_B_bool, sm_B_eql, sm_B_lss, sm_B_not, sm_B_and, sm_B_imp, sm_B_iff]
  rintro ⟨p0, p1, p2, p3⟩
  try generalize E.I ρ (.var 1) = x0 at *
  try generalize E.I ρ (.fn 9 (.pr (.var 0) (.int 4))) = x1 at *
  obtain ⟨y0, e0, q0, h0⟩ := cs_i64 (x0 + 1)
  try simp only [e0] at *
  omega
noncomputable def f2 : E := (.imp (.and (.cmp .lss (.var 1) (.int 81)) (.and (.not (.cmp .lss (.fn 9 (.pr (.var 0) (.int 4))) (.var 1))) (.not (.cmp .lss (.var 1) (.int 0))))) (.cmp .lss (.fn 7 (.pr (.fn 9 (.pr (.var 0) (.int 4))) (.ar .add .i64 (.var 1) (.int 1)))) (.fn 7 (.pr (.fn 9 (.pr (.var 0) (.int 4))) (.var 1)))))
theorem fact2 (ρ : Env) : E.B ρ f2 = true := by
  unfold f2
  simp only [sm_I_int, sm_I_mn, sm_I_mx, sm_I_add_u64, sm_I_sub_u64, sm_I_add_i64, sm_I_sub_i64, sm_I_mul_i64, sm_I_fn6, sm_I_fn7, sm_I_fn8, sm_B_bool, sm_B_eql, sm_B_lss, sm_B_not, sm_B_and, sm_B_imp, sm_B_iff]
  rintro ⟨p0, p1, p2⟩
  try generalize E.I ρ (.var 1) = x0 at *
  try generalize E.I ρ (.fn 9 (.pr (.var 0) (.int 4))) = x1 at *
  obtain ⟨y0, e0, q0, h0⟩ := cs_i64 (x0 + 1)
  try simp only [e0] at *
  omega
noncomputable def f3 : E := (.imp (.and (.cmp .lss (.var 1) (.fn 9 (.pr (.var 0) (.int 4)))) (.and (.cmp .lss (.var 1) (.int 81)) (.and (.not (.cmp .lss (.fn 9 (.pr (.var 0) (.int 4))) (.var 1))) (.not (.cmp .lss (.var 1) (.int 0)))))) (.not (.cmp .lss (.fn 7 (.pr (.fn 9 (.pr (.var 0) (.int 4))) (.ar .add .i64 (.var 1) (.int 1)))) (.int 0))))
theorem fact3 (ρ : Env) : E.B ρ f3 = true := by
  unfold f3
  simp only [sm_I_int, sm_I_mn, sm_I_mx, sm_I_add_u64, sm_I_sub_u64, sm_I_add_i64, sm_I_sub_i64, sm_I_mul_i64, sm_I_fn6, sm_I_fn7, sm_I_fn8, sm_B_bool, sm_B_eql, sm_B_lss, sm_B_not, sm_B_and, sm_B_imp, sm_B_iff]
  rintro ⟨p0, p1, p2, p3⟩
  try generalize E.I ρ (.var 1) = x0 at *
  try generalize E.I ρ (.fn 9 (.pr (.var 0) (.int 4))) = x1 at *
  obtain ⟨y0, e0, q0, h0⟩ := cs_i64 (x0 + 1)
  try simp only [e0] at *
  omega
noncomputable def facts : List E := [f0, f1, f2, f3]
theorem facts_ok : ∀ e ∈ facts, ∀ ρ : Env, E.B ρ e = true := (all_cons fact0 (all_cons fact1 (all_cons fact2 (all_cons fact3 all_nil))))
end p0
set_option maxRecDepth 100000 in
theorem spec0_0 : NatOk Try.prog (specNat (few)) :=
  spec_of_check good (facts := p0.facts) p0.facts_ok (anns := [annfew]) (plainAnns_ok _ (by kernel_rfl)) (nats := natl1) natl1_ok (n := 3000) (by kernel_rfl)
noncomputable def natl2 : List Nat1 := specNat (few) :: natl1
theorem natl2_ok : ∀ x ∈ natl2, NatOk Try.prog x := by
  intro x hx
  rcases List.mem_cons.1 hx with rfl | hx
  · exact spec0_0
  exact natl1_ok x hx

namespace l0
noncomputable def f0 : E := (.imp (.not (.seq (.var 0) (.var 1))) (.not (.seq (.var 1) (.var 0))))
theorem fact0 (ρ : Env) : E.B ρ f0 = true := by
  unfold f0
  simp only [sm_B_not, sm_B_imp, sm_B_and]
  intro p
  revert p
  simp only [seq_iff]
  intros
  first
    | (simp_all; done)
    | (intro h; simp_all)
    | grind
noncomputable def f1 : E := (.imp (.seq (.fn 1 (.pr (.var 2) (.fn 6 (.pr (.fn 8 (.pr (.var 3) (.int 4))) (.int 3))))) (.var 0)) (.seq (.var 0) (.fn 1 (.pr (.var 2) (.fn 6 (.pr (.fn 8 (.pr (.var 3) (.int 4))) (.int 3)))))))
theorem fact1 (ρ : Env) : E.B ρ f1 = true := by
  unfold f1
  simp only [sm_B_not, sm_B_imp, sm_B_and]
  intro p
  revert p
  simp only [seq_iff]
  intros
  first
    | (simp_all; done)
    | (intro h; simp_all)
    | grind
noncomputable def f2 : E := (.imp (.seq (.fn 1 (.pr (.var 2) (.fn 6 (.pr (.fn 8 (.pr (.var 3) (.int 4))) (.int 3))))) (.var 1)) (.seq (.var 1) (.fn 1 (.pr (.var 2) (.fn 6 (.pr (.fn 8 (.pr (.var 3) (.int 4))) (.int 3)))))))
theorem fact2 (ρ : Env) : E.B ρ f2 = true := by
  unfold f2
  simp only [sm_B_not, sm_B_imp, sm_B_and]
  intro p
  revert p
  simp only [seq_iff]
  intros
  first
    | (simp_all; done)
    | (intro h; simp_all)
    | grind
noncomputable def f3 : E := (.imp (.and (.not (.cmp .lss (.int 80) (.fn 9 (.pr (.var 2) (.int 4))))) (.and (.not (.cmp .lss (.fn 9 (.pr (.var 2) (.int 4))) (.var 3))) (.and (.not (.cmp .lss (.int 80) (.var 3))) (.and (.not (.cmp .lss (.var 3) (.int 0))) (.and (.cmp .lss (.var 3) (.fn 9 (.pr (.var 2) (.int 4)))) (.and (.not (.cmp .lss (.int 80) (.fn 9 (.pr (.var 2) (.int 4))))) (.and (.not (.cmp .lss (.fn 9 (.pr (.var 2) (.int 4))) (.var 3))) (.and (.not (.cmp .lss (.int 80) (.var 3))) (.and (.not (.cmp .lss (.var 3) (.int 0))) (.and (.not (.cmp .lss (.var 3) (.var 8))) (.not (.cmp .lss (.var 8) (.int 0))))))))))))) (.not (.cmp .eql (.var 8) (.int 10000))))
theorem fact3 (ρ : Env) : E.B ρ f3 = true := by
  unfold f3
  simp only [sm_I_int, sm_I_mn, sm_I_mx, sm_I_add_u64, sm_I_sub_u64, sm_I_add_i64, sm_I_sub_i64, sm_I_mul_i64, sm_I_fn6, sm_I_fn7, sm_I_fn8, sm_B_bool, sm_B_eql, sm_B_lss, sm_B_not, sm_B_and, sm_B_imp, sm_B_iff]
  rintro ⟨p0, p1, p2, p3, p4, p5, p6, p7, p8, p9, p10⟩
  try generalize E.I ρ (.fn 9 (.pr (.var 2) (.int 4))) = x0 at *
  try generalize E.I ρ (.var 3) = x1 at *
  try generalize E.I ρ (.var 8) = x2 at *
  omega
noncomputable def f4 : E := (.imp (.and (.fn 33 (.pr (.var 4) (.fn 1 (.pr (.var 2) (.fn 6 (.pr (.fn 8 (.pr (.var 3) (.int 4))) (.int 1))))))) (.and (.cmp .eql (.fn 32 (.pr (.var 4) (.pr (.fn 1 (.pr (.var 2) (.fn 6 (.pr (.fn 8 (.pr (.var 3) (.int 4))) (.int 1))))) (.int 0)))) (.int (-1))) (.and (.not (.cmp .lss (.int 80) (.fn 9 (.pr (.var 2) (.int 4))))) (.and (.not (.cmp .lss (.fn 9 (.pr (.var 2) (.int 4))) (.var 3))) (.and (.not (.cmp .lss (.int 80) (.var 3))) (.and (.not (.cmp .lss (.var 3) (.int 0))) (.and (.cmp .lss (.var 3) (.fn 9 (.pr (.var 2) (.int 4)))) (.and (.not (.cmp .lss (.int 80) (.fn 9 (.pr (.var 2) (.int 4))))) (.and (.not (.cmp .lss (.fn 9 (.pr (.var 2) (.int 4))) (.var 3))) (.and (.not (.cmp .lss (.int 80) (.var 3))) (.and (.not (.cmp .lss (.var 3) (.int 0))) (.and (.not (.cmp .lss (.var 3) (.var 8))) (.and (.not (.cmp .lss (.var 8) (.int 0))) (.fn 111 (.pr (.var 4) (.pr (.var 5) (.pr (.var 6) (.pr (.var 7) (.pr (.var 8) (.pr (.var 9) (.var 10))))))))))))))))))))) (.not (.fn 32 (.pr (.var 5) (.pr (.fn 1 (.pr (.var 2) (.fn 6 (.pr (.fn 8 (.pr (.var 3) (.int 4))) (.int 1))))) (.bool false))))))
theorem fact4 (ρ : Env) : E.B ρ f4 = true := by
  unfold f4
  simp only [sm_I_int, sm_I_fn6, sm_I_fn7, sm_I_fn8, sm_B_bool, sm_B_eql, sm_B_lss, sm_B_not, sm_B_and, sm_B_imp, sm_I_add_i64, sm_I_sub_i64, d111, d112, d33, d32, d32b, dL34, dL35, dL10, dd_int, dd_bool]
  rintro ⟨p0, p1, p2, p3, p4, p5, p6, p7, p8, p9, p10, p11, p12, p13⟩
  try generalize E.I ρ (.fn 1 (.pr (.var 2) (.fn 6 (.pr (.fn 8 (.pr (.var 3) (.int 4))) (.int 1))))) = z0 at *
  have hc13 := relH_c p13
  rcases relH_look p13 z0 with ⟨hn, hh, hg⟩ | ⟨v, hn, h1, h2, h3, h4, h5, h6, h7, h8, h9⟩
  · first
      | (exfalso; simp only [hn] at *; simp_all; done)
      | (rw [hn]; simp; done)
      | exact hh (by omega) (by omega)
      | (simp only [hn, Option.isSome_none, Option.getD_none, U.toI] at *; omega)
      | (simp only [hn, Option.isSome_none, Option.getD_none, U.toI] at *; simp_all; done)
  · simp only [hn, Option.isSome_some, Option.getD_some] at *
    first
      | omega
      | (rw [h3]; simp; done)
      | exact (h6 (by omega)).2
      | exact (h7 (by omega)).2
      | exact (h6 (by omega)).1.symm
      | exact (h7 (by omega)).1.symm
      | (simp_all; done)
      | (simp_all; omega)
noncomputable def f5 : E := (.imp (.and (.not (.cmp .lss (.int 80) (.fn 9 (.pr (.var 2) (.int 4))))) (.and (.not (.cmp .lss (.fn 9 (.pr (.var 2) (.int 4))) (.var 3))) (.and (.not (.cmp .lss (.int 80) (.var 3))) (.and (.not (.cmp .lss (.var 3) (.int 0))) (.and (.cmp .lss (.var 3) (.fn 9 (.pr (.var 2) (.int 4)))) (.and (.not (.cmp .lss (.int 80) (.fn 9 (.pr (.var 2) (.int 4))))) (.and (.not (.cmp .lss (.fn 9 (.pr (.var 2) (.int 4))) (.var 3))) (.and (.not (.cmp .lss (.int 80) (.var 3))) (.and (.not (.cmp .lss (.var 3) (.int 0))) (.and (.not (.cmp .lss (.var 3) (.var 8))) (.not (.cmp .lss (.var 8) (.int 0))))))))))))) (.not (.cmp .lss (.ar .add .i64 (.var 3) (.int 1)) (.var 8))))
theorem fact5 (ρ : Env) : E.B ρ f5 = true := by
  unfold f5
  simp only [sm_I_int, sm_I_mn, sm_I_mx, sm_I_add_u64, sm_I_sub_u64, sm_I_add_i64, sm_I_sub_i64, sm_I_mul_i64, sm_I_fn6, sm_I_fn7, sm_I_fn8, sm_B_bool, sm_B_eql, sm_B_lss, sm_B_not, sm_B_and, sm_B_imp, sm_B_iff]
  rintro ⟨p0, p1, p2, p3, p4, p5, p6, p7, p8, p9, p10⟩
  try generalize E.I ρ (.fn 9 (.pr (.var 2) (.int 4))) = x0 at *
  try generalize E.I ρ (.var 3) = x1 at *
  try generalize E.I ρ (.var 8) = x2 at *
  obtain ⟨y0, e0, q0, h0⟩ := cs_i64 (x1 + 1)
  try simp only [e0] at *
  omega
noncomputable def f6 : E := (.imp (.and (.fn 33 (.pr (.var 4) (.fn 1 (.pr (.var 2) (.fn 6 (.pr (.fn 8 (.pr (.var 3) (.int 4))) (.int 1))))))) (.and (.not (.cmp .eql (.fn 32 (.pr (.var 4) (.pr (.fn 1 (.pr (.var 2) (.fn 6 (.pr (.fn 8 (.pr (.var 3) (.int 4))) (.int 1))))) (.int 0)))) (.int (-1)))) (.and (.not (.cmp .eql (.fn 32 (.pr (.var 4) (.pr (.fn 1 (.pr (.var 2) (.fn 6 (.pr (.fn 8 (.pr (.var 3) (.int 4))) (.int 1))))) (.int 0)))) (.int 0))) (.and (.not (.cmp .lss (.int 80) (.fn 9 (.pr (.var 2) (.int 4))))) (.and (.not (.cmp .lss (.fn 9 (.pr (.var 2) (.int 4))) (.var 3))) (.and (.not (.cmp .lss (.int 80) (.var 3))) (.and (.not (.cmp .lss (.var 3) (.int 0))) (.and (.cmp .lss (.var 3) (.fn 9 (.pr (.var 2) (.int 4)))) (.and (.not (.cmp .lss (.int 80) (.fn 9 (.pr (.var 2) (.int 4))))) (.and (.not (.cmp .lss (.fn 9 (.pr (.var 2) (.int 4))) (.var 3))) (.and (.not (.cmp .lss (.int 80) (.var 3))) (.and (.not (.cmp .lss (.var 3) (.int 0))) (.and (.not (.cmp .lss (.var 3) (.var 8))) (.and (.not (.cmp .lss (.var 8) (.int 0))) (.fn 111 (.pr (.var 4) (.pr (.var 5) (.pr (.var 6) (.pr (.var 7) (.pr (.var 8) (.pr (.var 9) (.var 10)))))))))))))))))))))) (.cmp .eql (.fn 32 (.pr (.var 4) (.pr (.fn 1 (.pr (.var 2) (.fn 6 (.pr (.fn 8 (.pr (.var 3) (.int 4))) (.int 1))))) (.int 0)))) (.int 1)))
theorem fact6 (ρ : Env) : E.B ρ f6 = true := by
  unfold f6
  simp only [sm_I_int, sm_I_fn6, sm_I_fn7, sm_I_fn8, sm_B_bool, sm_B_eql, sm_B_lss, sm_B_not, sm_B_and, sm_B_imp, sm_I_add_i64, sm_I_sub_i64, d111, d112, d33, d32, d32b, dL34, dL35, dL10, dd_int, dd_bool]
  rintro ⟨p0, p1, p2, p3, p4, p5, p6, p7, p8, p9, p10, p11, p12, p13, p14⟩
  try generalize E.I ρ (.fn 1 (.pr (.var 2) (.fn 6 (.pr (.fn 8 (.pr (.var 3) (.int 4))) (.int 1))))) = z0 at *
  have hc14 := relH_c p14
  rcases relH_look p14 z0 with ⟨hn, hh, hg⟩ | ⟨v, hn, h1, h2, h3, h4, h5, h6, h7, h8, h9⟩
  · first
      | (exfalso; simp only [hn] at *; simp_all; done)
      | (rw [hn]; simp; done)
      | exact hh (by omega) (by omega)
      | (simp only [hn, Option.isSome_none, Option.getD_none, U.toI] at *; omega)
      | (simp only [hn, Option.isSome_none, Option.getD_none, U.toI] at *; simp_all; done)
  · simp only [hn, Option.isSome_some, Option.getD_some] at *
    first
      | omega
      | (rw [h3]; simp; done)
      | exact (h6 (by omega)).2
      | exact (h7 (by omega)).2
      | exact (h6 (by omega)).1.symm
      | exact (h7 (by omega)).1.symm
      | (simp_all; done)
      | (simp_all; omega)
noncomputable def f7 : E := (.imp (.and (.not (.cmp .lss (.int 80) (.fn 9 (.pr (.var 2) (.int 4))))) (.and (.not (.cmp .lss (.fn 9 (.pr (.var 2) (.int 4))) (.var 3))) (.and (.not (.cmp .lss (.int 80) (.var 3))) (.and (.not (.cmp .lss (.var 3) (.int 0))) (.and (.cmp .lss (.var 3) (.fn 9 (.pr (.var 2) (.int 4)))) (.and (.not (.cmp .lss (.int 80) (.fn 9 (.pr (.var 2) (.int 4))))) (.and (.not (.cmp .lss (.fn 9 (.pr (.var 2) (.int 4))) (.var 3))) (.and (.not (.cmp .lss (.int 80) (.var 3))) (.and (.not (.cmp .lss (.var 3) (.int 0))) (.and (.not (.cmp .lss (.var 3) (.var 8))) (.and (.not (.cmp .lss (.var 8) (.int 0))) (.fn 111 (.pr (.var 4) (.pr (.var 5) (.pr (.var 6) (.pr (.var 7) (.pr (.var 8) (.pr (.var 9) (.var 10))))))))))))))))))) (.fn 111 (.pr (.fn 34 (.pr (.var 4) (.pr (.var 8) (.int (-1))))) (.pr (.var 5) (.pr (.var 6) (.pr (.var 7) (.pr (.ar .add .i64 (.var 8) (.int 1)) (.pr (.var 9) (.var 10)))))))))
theorem fact7 (ρ : Env) : E.B ρ f7 = true := by
  unfold f7
  simp only [sm_I_int, sm_I_fn6, sm_I_fn7, sm_I_fn8, sm_B_bool, sm_B_eql, sm_B_lss, sm_B_not, sm_B_and, sm_B_imp, sm_I_add_i64, sm_I_sub_i64, d111, d112, d33, d32, d32b, dL34, dL35, dL10, dd_int, dd_bool]
  rintro ⟨p0, p1, p2, p3, p4, p5, p6, p7, p8, p9, p10, p11⟩
  have hc11 := relH_c p11
  obtain ⟨y0, e0, q0, h0⟩ := cs_i64 ((E.I ρ (.var 8)) + (1))
  have w0 := h0 (by omega) (by omega)
  simp only [e0] at *
  subst w0
  exact relH_open p11 (by omega)
noncomputable def f8 : E := (.imp (.and (.fn 33 (.pr (.var 4) (.fn 1 (.pr (.var 2) (.fn 6 (.pr (.fn 8 (.pr (.var 3) (.int 4))) (.int 1))))))) (.and (.cmp .eql (.fn 32 (.pr (.var 4) (.pr (.fn 1 (.pr (.var 2) (.fn 6 (.pr (.fn 8 (.pr (.var 3) (.int 4))) (.int 1))))) (.int 0)))) (.int (-1))) (.and (.not (.cmp .lss (.var 6) (.int 0))) (.and (.not (.cmp .lss (.int 80) (.fn 9 (.pr (.var 2) (.int 4))))) (.and (.not (.cmp .lss (.fn 9 (.pr (.var 2) (.int 4))) (.var 3))) (.and (.not (.cmp .lss (.int 80) (.var 3))) (.and (.not (.cmp .lss (.var 3) (.int 0))) (.and (.cmp .lss (.var 3) (.fn 9 (.pr (.var 2) (.int 4)))) (.and (.not (.cmp .lss (.int 80) (.fn 9 (.pr (.var 2) (.int 4))))) (.and (.not (.cmp .lss (.fn 9 (.pr (.var 2) (.int 4))) (.var 3))) (.and (.not (.cmp .lss (.int 80) (.var 3))) (.and (.not (.cmp .lss (.var 3) (.int 0))) (.and (.not (.cmp .lss (.var 3) (.var 8))) (.and (.not (.cmp .lss (.var 8) (.int 0))) (.fn 111 (.pr (.var 4) (.pr (.var 5) (.pr (.var 6) (.pr (.var 7) (.pr (.var 8) (.pr (.var 9) (.var 10)))))))))))))))))))))) (.fn 111 (.pr (.fn 34 (.pr (.fn 35 (.pr (.var 4) (.var 6))) (.pr (.fn 1 (.pr (.var 2) (.fn 6 (.pr (.fn 8 (.pr (.var 3) (.int 4))) (.int 1))))) (.int 0)))) (.pr (.fn 34 (.pr (.var 5) (.pr (.var 6) (.bool true)))) (.pr (.fn 1 (.pr (.var 2) (.fn 6 (.pr (.fn 8 (.pr (.var 3) (.int 4))) (.int 1))))) (.pr (.var 7) (.pr (.var 8) (.pr (.bool true) (.var 10)))))))))
theorem fact8 (ρ : Env) : E.B ρ f8 = true := by
  unfold f8
  simp only [sm_I_int, sm_I_fn6, sm_I_fn7, sm_I_fn8, sm_B_bool, sm_B_eql, sm_B_lss, sm_B_not, sm_B_and, sm_B_imp, sm_I_add_i64, sm_I_sub_i64, d111, d112, d33, d32, d32b, dL34, dL35, dL10, dd_int, dd_bool]
  rintro ⟨p0, p1, p2, p3, p4, p5, p6, p7, p8, p9, p10, p11, p12, p13, p14⟩
  try generalize E.I ρ (.fn 1 (.pr (.var 2) (.fn 6 (.pr (.fn 8 (.pr (.var 3) (.int 4))) (.int 1))))) = z0 at *
  have hc14 := relH_c p14
  rcases relH_look p14 z0 with ⟨hn, hh, hg⟩ | ⟨v, hn, h1, h2, h3, h4, h5, h6, h7, h8, h9⟩
  · exfalso; simp only [hn] at *; simp_all
  · simp only [hn, Option.isSome_some, Option.getD_some] at p0 p1 p2 p3 p4 p5 p6 p7 p8 p9 p10 p11 p12 p13 p14
    exact relH_hello p14 (p := 0) hn (by omega) (by decide) (by simp) (by simp) (by simp) (by simp) (by simp) (by rw [if_pos (by omega)])
noncomputable def f9 : E := (.imp (.and (.fn 33 (.pr (.var 4) (.fn 1 (.pr (.var 2) (.fn 6 (.pr (.fn 8 (.pr (.var 3) (.int 4))) (.int 1))))))) (.and (.cmp .eql (.fn 32 (.pr (.var 4) (.pr (.fn 1 (.pr (.var 2) (.fn 6 (.pr (.fn 8 (.pr (.var 3) (.int 4))) (.int 1))))) (.int 0)))) (.int (-1))) (.and (.cmp .lss (.var 6) (.int 0)) (.and (.not (.cmp .lss (.int 80) (.fn 9 (.pr (.var 2) (.int 4))))) (.and (.not (.cmp .lss (.fn 9 (.pr (.var 2) (.int 4))) (.var 3))) (.and (.not (.cmp .lss (.int 80) (.var 3))) (.and (.not (.cmp .lss (.var 3) (.int 0))) (.and (.cmp .lss (.var 3) (.fn 9 (.pr (.var 2) (.int 4)))) (.and (.not (.cmp .lss (.int 80) (.fn 9 (.pr (.var 2) (.int 4))))) (.and (.not (.cmp .lss (.fn 9 (.pr (.var 2) (.int 4))) (.var 3))) (.and (.not (.cmp .lss (.int 80) (.var 3))) (.and (.not (.cmp .lss (.var 3) (.int 0))) (.and (.not (.cmp .lss (.var 3) (.var 8))) (.and (.not (.cmp .lss (.var 8) (.int 0))) (.fn 111 (.pr (.var 4) (.pr (.var 5) (.pr (.var 6) (.pr (.var 7) (.pr (.var 8) (.pr (.var 9) (.var 10)))))))))))))))))))))) (.fn 111 (.pr (.fn 34 (.pr (.fn 35 (.pr (.var 4) (.var 6))) (.pr (.fn 1 (.pr (.var 2) (.fn 6 (.pr (.fn 8 (.pr (.var 3) (.int 4))) (.int 1))))) (.int 0)))) (.pr (.var 5) (.pr (.fn 1 (.pr (.var 2) (.fn 6 (.pr (.fn 8 (.pr (.var 3) (.int 4))) (.int 1))))) (.pr (.var 7) (.pr (.var 8) (.pr (.bool true) (.var 10)))))))))
theorem fact9 (ρ : Env) : E.B ρ f9 = true := by
  unfold f9
  simp only [sm_I_int, sm_I_fn6, sm_I_fn7, sm_I_fn8, sm_B_bool, sm_B_eql, sm_B_lss, sm_B_not, sm_B_and, sm_B_imp, sm_I_add_i64, sm_I_sub_i64, d111, d112, d33, d32, d32b, dL34, dL35, dL10, dd_int, dd_bool]
  rintro ⟨p0, p1, p2, p3, p4, p5, p6, p7, p8, p9, p10, p11, p12, p13, p14⟩
  try generalize E.I ρ (.fn 1 (.pr (.var 2) (.fn 6 (.pr (.fn 8 (.pr (.var 3) (.int 4))) (.int 1))))) = z0 at *
  have hc14 := relH_c p14
  rcases relH_look p14 z0 with ⟨hn, hh, hg⟩ | ⟨v, hn, h1, h2, h3, h4, h5, h6, h7, h8, h9⟩
  · exfalso; simp only [hn] at *; simp_all
  · simp only [hn, Option.isSome_some, Option.getD_some] at p0 p1 p2 p3 p4 p5 p6 p7 p8 p9 p10 p11 p12 p13 p14
    exact relH_hello p14 (p := 0) hn (by omega) (by decide) (by simp) (by simp) (by simp) (by simp) (by simp) (by rw [if_neg (by omega)])
noncomputable def f10 : E := (.imp (.and (.not (.cmp .lss (.int 80) (.fn 9 (.pr (.var 2) (.int 4))))) (.and (.not (.cmp .lss (.fn 9 (.pr (.var 2) (.int 4))) (.var 3))) (.and (.not (.cmp .lss (.int 80) (.var 3))) (.and (.not (.cmp .lss (.var 3) (.int 0))) (.and (.cmp .lss (.var 3) (.fn 9 (.pr (.var 2) (.int 4)))) (.and (.not (.cmp .lss (.int 80) (.fn 9 (.pr (.var 2) (.int 4))))) (.and (.not (.cmp .lss (.fn 9 (.pr (.var 2) (.int 4))) (.var 3))) (.and (.not (.cmp .lss (.int 80) (.var 3))) (.and (.not (.cmp .lss (.var 3) (.int 0))) (.and (.not (.cmp .lss (.var 3) (.var 8))) (.not (.cmp .lss (.var 8) (.int 0))))))))))))) (.not (.cmp .lss (.ar .add .i64 (.var 3) (.int 1)) (.int 0))))
theorem fact10 (ρ : Env) : E.B ρ f10 = true := by
  unfold f10
  simp only [sm_I_int, sm_I_mn, sm_I_mx, sm_I_add_u64, sm_I_sub_u64, sm_I_add_i64, sm_I_sub_i64, sm_I_mul_i64, sm_I_fn6, sm_I_fn7, sm_I_fn8, sm_B_bool, sm_B_eql, sm_B_lss, sm_B_not, sm_B_and, sm_B_imp, sm_B_iff]
  rintro ⟨p0, p1, p2, p3, p4, p5, p6, p7, p8, p9, p10⟩
  try generalize E.I ρ (.fn 9 (.pr (.var 2) (.int 4))) = x0 at *
  try generalize E.I ρ (.var 3) = x1 at *
  try generalize E.I ρ (.var 8) = x2 at *
  obtain ⟨y0, e0, q0, h0⟩ := cs_i64 (x1 + 1)
  try simp only [e0] at *
  omega
noncomputable def f11 : E := (.imp (.and (.fn 33 (.pr (.var 4) (.fn 1 (.pr (.var 2) (.fn 6 (.pr (.fn 8 (.pr (.var 3) (.int 4))) (.int 1))))))) (.and (.cmp .eql (.fn 32 (.pr (.var 4) (.pr (.fn 1 (.pr (.var 2) (.fn 6 (.pr (.fn 8 (.pr (.var 3) (.int 4))) (.int 1))))) (.int 0)))) (.int (-1))) (.and (.not (.cmp .lss (.var 7) (.int 0))) (.and (.not (.cmp .lss (.int 80) (.fn 9 (.pr (.var 2) (.int 4))))) (.and (.not (.cmp .lss (.fn 9 (.pr (.var 2) (.int 4))) (.var 3))) (.and (.not (.cmp .lss (.int 80) (.var 3))) (.and (.not (.cmp .lss (.var 3) (.int 0))) (.and (.cmp .lss (.var 3) (.fn 9 (.pr (.var 2) (.int 4)))) (.and (.not (.cmp .lss (.int 80) (.fn 9 (.pr (.var 2) (.int 4))))) (.and (.not (.cmp .lss (.fn 9 (.pr (.var 2) (.int 4))) (.var 3))) (.and (.not (.cmp .lss (.int 80) (.var 3))) (.and (.not (.cmp .lss (.var 3) (.int 0))) (.and (.not (.cmp .lss (.var 3) (.var 8))) (.and (.not (.cmp .lss (.var 8) (.int 0))) (.fn 111 (.pr (.var 4) (.pr (.var 5) (.pr (.var 6) (.pr (.var 7) (.pr (.var 8) (.pr (.var 9) (.var 10)))))))))))))))))))))) (.fn 111 (.pr (.fn 34 (.pr (.fn 35 (.pr (.var 4) (.var 7))) (.pr (.fn 1 (.pr (.var 2) (.fn 6 (.pr (.fn 8 (.pr (.var 3) (.int 4))) (.int 1))))) (.int 1)))) (.pr (.fn 34 (.pr (.var 5) (.pr (.var 7) (.bool true)))) (.pr (.var 6) (.pr (.fn 1 (.pr (.var 2) (.fn 6 (.pr (.fn 8 (.pr (.var 3) (.int 4))) (.int 1))))) (.pr (.var 8) (.pr (.var 9) (.bool true)))))))))
theorem fact11 (ρ : Env) : E.B ρ f11 = true := by
  unfold f11
  simp only [sm_I_int, sm_I_fn6, sm_I_fn7, sm_I_fn8, sm_B_bool, sm_B_eql, sm_B_lss, sm_B_not, sm_B_and, sm_B_imp, sm_I_add_i64, sm_I_sub_i64, d111, d112, d33, d32, d32b, dL34, dL35, dL10, dd_int, dd_bool]
  rintro ⟨p0, p1, p2, p3, p4, p5, p6, p7, p8, p9, p10, p11, p12, p13, p14⟩
  try generalize E.I ρ (.fn 1 (.pr (.var 2) (.fn 6 (.pr (.fn 8 (.pr (.var 3) (.int 4))) (.int 1))))) = z0 at *
  have hc14 := relH_c p14
  rcases relH_look p14 z0 with ⟨hn, hh, hg⟩ | ⟨v, hn, h1, h2, h3, h4, h5, h6, h7, h8, h9⟩
  · exfalso; simp only [hn] at *; simp_all
  · simp only [hn, Option.isSome_some, Option.getD_some] at p0 p1 p2 p3 p4 p5 p6 p7 p8 p9 p10 p11 p12 p13 p14
    exact relH_hello p14 (p := 1) hn (by omega) (by decide) (by simp) (by simp) (by simp) (by simp) (by simp) (by rw [if_pos (by omega)])
noncomputable def f12 : E := (.imp (.and (.fn 33 (.pr (.var 4) (.fn 1 (.pr (.var 2) (.fn 6 (.pr (.fn 8 (.pr (.var 3) (.int 4))) (.int 1))))))) (.and (.cmp .eql (.fn 32 (.pr (.var 4) (.pr (.fn 1 (.pr (.var 2) (.fn 6 (.pr (.fn 8 (.pr (.var 3) (.int 4))) (.int 1))))) (.int 0)))) (.int (-1))) (.and (.cmp .lss (.var 7) (.int 0)) (.and (.not (.cmp .lss (.int 80) (.fn 9 (.pr (.var 2) (.int 4))))) (.and (.not (.cmp .lss (.fn 9 (.pr (.var 2) (.int 4))) (.var 3))) (.and (.not (.cmp .lss (.int 80) (.var 3))) (.and (.not (.cmp .lss (.var 3) (.int 0))) (.and (.cmp .lss (.var 3) (.fn 9 (.pr (.var 2) (.int 4)))) (.and (.not (.cmp .lss (.int 80) (.fn 9 (.pr (.var 2) (.int 4))))) (.and (.not (.cmp .lss (.fn 9 (.pr (.var 2) (.int 4))) (.var 3))) (.and (.not (.cmp .lss (.int 80) (.var 3))) (.and (.not (.cmp .lss (.var 3) (.int 0))) (.and (.not (.cmp .lss (.var 3) (.var 8))) (.and (.not (.cmp .lss (.var 8) (.int 0))) (.fn 111 (.pr (.var 4) (.pr (.var 5) (.pr (.var 6) (.pr (.var 7) (.pr (.var 8) (.pr (.var 9) (.var 10)))))))))))))))))))))) (.fn 111 (.pr (.fn 34 (.pr (.fn 35 (.pr (.var 4) (.var 7))) (.pr (.fn 1 (.pr (.var 2) (.fn 6 (.pr (.fn 8 (.pr (.var 3) (.int 4))) (.int 1))))) (.int 1)))) (.pr (.var 5) (.pr (.var 6) (.pr (.fn 1 (.pr (.var 2) (.fn 6 (.pr (.fn 8 (.pr (.var 3) (.int 4))) (.int 1))))) (.pr (.var 8) (.pr (.var 9) (.bool true)))))))))
theorem fact12 (ρ : Env) : E.B ρ f12 = true := by
  unfold f12
  simp only [sm_I_int, sm_I_fn6, sm_I_fn7, sm_I_fn8, sm_B_bool, sm_B_eql, sm_B_lss, sm_B_not, sm_B_and, sm_B_imp, sm_I_add_i64, sm_I_sub_i64, d111, d112, d33, d32, d32b, dL34, dL35, dL10, dd_int, dd_bool]
  rintro ⟨p0, p1, p2, p3, p4, p5, p6, p7, p8, p9, p10, p11, p12, p13, p14⟩
  try generalize E.I ρ (.fn 1 (.pr (.var 2) (.fn 6 (.pr (.fn 8 (.pr (.var 3) (.int 4))) (.int 1))))) = z0 at *
  have hc14 := relH_c p14
  rcases relH_look p14 z0 with ⟨hn, hh, hg⟩ | ⟨v, hn, h1, h2, h3, h4, h5, h6, h7, h8, h9⟩
  · exfalso; simp only [hn] at *; simp_all
  · simp only [hn, Option.isSome_some, Option.getD_some] at p0 p1 p2 p3 p4 p5 p6 p7 p8 p9 p10 p11 p12 p13 p14
    exact relH_hello p14 (p := 1) hn (by omega) (by decide) (by simp) (by simp) (by simp) (by simp) (by simp) (by rw [if_neg (by omega)])
noncomputable def f13 : E := (.imp (.and (.fn 33 (.pr (.var 4) (.fn 1 (.pr (.var 2) (.fn 6 (.pr (.fn 8 (.pr (.var 3) (.int 4))) (.int 1))))))) (.and (.cmp .eql (.fn 32 (.pr (.var 4) (.pr (.fn 1 (.pr (.var 2) (.fn 6 (.pr (.fn 8 (.pr (.var 3) (.int 4))) (.int 1))))) (.int 0)))) (.int (-1))) (.and (.not (.cmp .lss (.int 80) (.fn 9 (.pr (.var 2) (.int 4))))) (.and (.not (.cmp .lss (.fn 9 (.pr (.var 2) (.int 4))) (.var 3))) (.and (.not (.cmp .lss (.int 80) (.var 3))) (.and (.not (.cmp .lss (.var 3) (.int 0))) (.and (.cmp .lss (.var 3) (.fn 9 (.pr (.var 2) (.int 4)))) (.and (.not (.cmp .lss (.int 80) (.fn 9 (.pr (.var 2) (.int 4))))) (.and (.not (.cmp .lss (.fn 9 (.pr (.var 2) (.int 4))) (.var 3))) (.and (.not (.cmp .lss (.int 80) (.var 3))) (.and (.not (.cmp .lss (.var 3) (.int 0))) (.and (.not (.cmp .lss (.var 3) (.var 8))) (.and (.not (.cmp .lss (.var 8) (.int 0))) (.fn 111 (.pr (.var 4) (.pr (.var 5) (.pr (.var 6) (.pr (.var 7) (.pr (.var 8) (.pr (.var 9) (.var 10))))))))))))))))))))) (.fn 111 (.pr (.fn 35 (.pr (.var 4) (.fn 1 (.pr (.var 2) (.fn 6 (.pr (.fn 8 (.pr (.var 3) (.int 4))) (.int 1))))))) (.pr (.fn 34 (.pr (.var 5) (.pr (.fn 1 (.pr (.var 2) (.fn 6 (.pr (.fn 8 (.pr (.var 3) (.int 4))) (.int 1))))) (.bool true)))) (.pr (.var 6) (.pr (.var 7) (.pr (.var 8) (.pr (.var 9) (.var 10)))))))))
theorem fact13 (ρ : Env) : E.B ρ f13 = true := by
  unfold f13
  simp only [sm_I_int, sm_I_fn6, sm_I_fn7, sm_I_fn8, sm_B_bool, sm_B_eql, sm_B_lss, sm_B_not, sm_B_and, sm_B_imp, sm_I_add_i64, sm_I_sub_i64, d111, d112, d33, d32, d32b, dL34, dL35, dL10, dd_int, dd_bool]
  rintro ⟨p0, p1, p2, p3, p4, p5, p6, p7, p8, p9, p10, p11, p12, p13⟩
  try generalize E.I ρ (.fn 1 (.pr (.var 2) (.fn 6 (.pr (.fn 8 (.pr (.var 3) (.int 4))) (.int 1))))) = z0 at *
  have hc13 := relH_c p13
  rcases relH_look p13 z0 with ⟨hn, hh, hg⟩ | ⟨v, hn, h1, h2, h3, h4, h5, h6, h7, h8, h9⟩
  · exfalso; simp only [hn] at *; simp_all
  · simp only [hn, Option.isSome_some, Option.getD_some] at *
    exact relH_close p13 h1 h2 (by split <;> omega) (by split <;> omega)
noncomputable def f14 : E := (.imp (.and (.fn 33 (.pr (.var 4) (.fn 1 (.pr (.var 2) (.fn 6 (.pr (.fn 8 (.pr (.var 3) (.int 4))) (.int 1))))))) (.and (.not (.cmp .eql (.fn 32 (.pr (.var 4) (.pr (.fn 1 (.pr (.var 2) (.fn 6 (.pr (.fn 8 (.pr (.var 3) (.int 4))) (.int 1))))) (.int 0)))) (.int (-1)))) (.and (.not (.cmp .eql (.fn 32 (.pr (.var 4) (.pr (.fn 1 (.pr (.var 2) (.fn 6 (.pr (.fn 8 (.pr (.var 3) (.int 4))) (.int 1))))) (.int 0)))) (.int 0))) (.and (.not (.cmp .lss (.int 80) (.fn 9 (.pr (.var 2) (.int 4))))) (.and (.not (.cmp .lss (.fn 9 (.pr (.var 2) (.int 4))) (.var 3))) (.and (.not (.cmp .lss (.int 80) (.var 3))) (.and (.not (.cmp .lss (.var 3) (.int 0))) (.and (.cmp .lss (.var 3) (.fn 9 (.pr (.var 2) (.int 4)))) (.and (.not (.cmp .lss (.int 80) (.fn 9 (.pr (.var 2) (.int 4))))) (.and (.not (.cmp .lss (.fn 9 (.pr (.var 2) (.int 4))) (.var 3))) (.and (.not (.cmp .lss (.int 80) (.var 3))) (.and (.not (.cmp .lss (.var 3) (.int 0))) (.and (.not (.cmp .lss (.var 3) (.var 8))) (.and (.not (.cmp .lss (.var 8) (.int 0))) (.fn 111 (.pr (.var 4) (.pr (.var 5) (.pr (.var 6) (.pr (.var 7) (.pr (.var 8) (.pr (.var 9) (.var 10)))))))))))))))))))))) (.fn 111 (.pr (.fn 35 (.pr (.var 4) (.fn 1 (.pr (.var 2) (.fn 6 (.pr (.fn 8 (.pr (.var 3) (.int 4))) (.int 1))))))) (.pr (.fn 34 (.pr (.var 5) (.pr (.fn 1 (.pr (.var 2) (.fn 6 (.pr (.fn 8 (.pr (.var 3) (.int 4))) (.int 1))))) (.bool true)))) (.pr (.var 6) (.pr (.int (-1)) (.pr (.var 8) (.pr (.var 9) (.var 10)))))))))
theorem fact14 (ρ : Env) : E.B ρ f14 = true := by
  unfold f14
  simp only [sm_I_int, sm_I_fn6, sm_I_fn7, sm_I_fn8, sm_B_bool, sm_B_eql, sm_B_lss, sm_B_not, sm_B_and, sm_B_imp, sm_I_add_i64, sm_I_sub_i64, d111, d112, d33, d32, d32b, dL34, dL35, dL10, dd_int, dd_bool]
  rintro ⟨p0, p1, p2, p3, p4, p5, p6, p7, p8, p9, p10, p11, p12, p13, p14⟩
  try generalize E.I ρ (.fn 1 (.pr (.var 2) (.fn 6 (.pr (.fn 8 (.pr (.var 3) (.int 4))) (.int 1))))) = z0 at *
  have hc14 := relH_c p14
  rcases relH_look p14 z0 with ⟨hn, hh, hg⟩ | ⟨v, hn, h1, h2, h3, h4, h5, h6, h7, h8, h9⟩
  · exfalso; simp only [hn] at *; simp_all
  · simp only [hn, Option.isSome_some, Option.getD_some] at *
    exact relH_close p14 h1 h2 (by split <;> omega) (by split <;> omega)
noncomputable def f15 : E := (.imp (.and (.fn 33 (.pr (.var 4) (.fn 1 (.pr (.var 2) (.fn 6 (.pr (.fn 8 (.pr (.var 3) (.int 4))) (.int 1))))))) (.and (.not (.cmp .eql (.fn 32 (.pr (.var 4) (.pr (.fn 1 (.pr (.var 2) (.fn 6 (.pr (.fn 8 (.pr (.var 3) (.int 4))) (.int 1))))) (.int 0)))) (.int (-1)))) (.and (.cmp .eql (.fn 32 (.pr (.var 4) (.pr (.fn 1 (.pr (.var 2) (.fn 6 (.pr (.fn 8 (.pr (.var 3) (.int 4))) (.int 1))))) (.int 0)))) (.int 0)) (.and (.not (.cmp .lss (.int 80) (.fn 9 (.pr (.var 2) (.int 4))))) (.and (.not (.cmp .lss (.fn 9 (.pr (.var 2) (.int 4))) (.var 3))) (.and (.not (.cmp .lss (.int 80) (.var 3))) (.and (.not (.cmp .lss (.var 3) (.int 0))) (.and (.cmp .lss (.var 3) (.fn 9 (.pr (.var 2) (.int 4)))) (.and (.not (.cmp .lss (.int 80) (.fn 9 (.pr (.var 2) (.int 4))))) (.and (.not (.cmp .lss (.fn 9 (.pr (.var 2) (.int 4))) (.var 3))) (.and (.not (.cmp .lss (.int 80) (.var 3))) (.and (.not (.cmp .lss (.var 3) (.int 0))) (.and (.not (.cmp .lss (.var 3) (.var 8))) (.and (.not (.cmp .lss (.var 8) (.int 0))) (.fn 111 (.pr (.var 4) (.pr (.var 5) (.pr (.var 6) (.pr (.var 7) (.pr (.var 8) (.pr (.var 9) (.var 10)))))))))))))))))))))) (.fn 111 (.pr (.fn 35 (.pr (.var 4) (.fn 1 (.pr (.var 2) (.fn 6 (.pr (.fn 8 (.pr (.var 3) (.int 4))) (.int 1))))))) (.pr (.fn 34 (.pr (.var 5) (.pr (.fn 1 (.pr (.var 2) (.fn 6 (.pr (.fn 8 (.pr (.var 3) (.int 4))) (.int 1))))) (.bool true)))) (.pr (.int (-1)) (.pr (.var 7) (.pr (.var 8) (.pr (.var 9) (.var 10)))))))))
theorem fact15 (ρ : Env) : E.B ρ f15 = true := by
  unfold f15
  simp only [sm_I_int, sm_I_fn6, sm_I_fn7, sm_I_fn8, sm_B_bool, sm_B_eql, sm_B_lss, sm_B_not, sm_B_and, sm_B_imp, sm_I_add_i64, sm_I_sub_i64, d111, d112, d33, d32, d32b, dL34, dL35, dL10, dd_int, dd_bool]
  rintro ⟨p0, p1, p2, p3, p4, p5, p6, p7, p8, p9, p10, p11, p12, p13, p14⟩
  try generalize E.I ρ (.fn 1 (.pr (.var 2) (.fn 6 (.pr (.fn 8 (.pr (.var 3) (.int 4))) (.int 1))))) = z0 at *
  have hc14 := relH_c p14
  rcases relH_look p14 z0 with ⟨hn, hh, hg⟩ | ⟨v, hn, h1, h2, h3, h4, h5, h6, h7, h8, h9⟩
  · exfalso; simp only [hn] at *; simp_all
  · simp only [hn, Option.isSome_some, Option.getD_some] at *
    exact relH_close p14 h1 h2 (by split <;> omega) (by split <;> omega)
noncomputable def f16 : E := (.imp (.and (.not (.cmp .lss (.int 80) (.fn 9 (.pr (.var 2) (.int 4))))) (.and (.not (.cmp .lss (.fn 9 (.pr (.var 2) (.int 4))) (.var 3))) (.and (.not (.cmp .lss (.int 80) (.var 3))) (.and (.not (.cmp .lss (.var 3) (.int 0))) (.and (.cmp .lss (.var 3) (.fn 9 (.pr (.var 2) (.int 4)))) (.and (.not (.cmp .lss (.int 80) (.fn 9 (.pr (.var 2) (.int 4))))) (.and (.not (.cmp .lss (.fn 9 (.pr (.var 2) (.int 4))) (.var 3))) (.and (.not (.cmp .lss (.int 80) (.var 3))) (.and (.not (.cmp .lss (.var 3) (.int 0))) (.and (.not (.cmp .lss (.var 3) (.var 8))) (.not (.cmp .lss (.var 8) (.int 0))))))))))))) (.not (.cmp .lss (.ar .add .i64 (.var 8) (.int 1)) (.int 0))))
theorem fact16 (ρ : Env) : E.B ρ f16 = true := by
  unfold f16
  simp only [sm_I_int, sm_I_mn, sm_I_mx, sm_I_add_u64, sm_I_sub_u64, sm_I_add_i64, sm_I_sub_i64, sm_I_mul_i64, sm_I_fn6, sm_I_fn7, sm_I_fn8, sm_B_bool, sm_B_eql, sm_B_lss, sm_B_not, sm_B_and, sm_B_imp, sm_B_iff]
  rintro ⟨p0, p1, p2, p3, p4, p5, p6, p7, p8, p9, p10⟩
  try generalize E.I ρ (.fn 9 (.pr (.var 2) (.int 4))) = x0 at *
  try generalize E.I ρ (.var 3) = x1 at *
  try generalize E.I ρ (.var 8) = x2 at *
  obtain ⟨y0, e0, q0, h0⟩ := cs_i64 (x2 + 1)
  try simp only [e0] at *
  omega
noncomputable def f17 : E := (.imp (.and (.not (.cmp .lss (.int 80) (.fn 9 (.pr (.var 2) (.int 4))))) (.and (.not (.cmp .lss (.fn 9 (.pr (.var 2) (.int 4))) (.var 3))) (.and (.not (.cmp .lss (.int 80) (.var 3))) (.and (.not (.cmp .lss (.var 3) (.int 0))) (.and (.cmp .lss (.var 3) (.fn 9 (.pr (.var 2) (.int 4)))) (.and (.not (.cmp .lss (.int 80) (.fn 9 (.pr (.var 2) (.int 4))))) (.and (.not (.cmp .lss (.fn 9 (.pr (.var 2) (.int 4))) (.var 3))) (.and (.not (.cmp .lss (.int 80) (.var 3))) (.and (.not (.cmp .lss (.var 3) (.int 0))) (.and (.not (.cmp .lss (.var 3) (.var 8))) (.not (.cmp .lss (.var 8) (.int 0))))))))))))) (.not (.cmp .lss (.fn 6 (.pr (.var 3) (.int 1))) (.var 8))))
theorem fact17 (ρ : Env) : E.B ρ f17 = true := by
  unfold f17
  simp only [sm_I_int, sm_I_mn, sm_I_mx, sm_I_add_u64, sm_I_sub_u64, sm_I_add_i64, sm_I_sub_i64, sm_I_mul_i64, sm_I_fn6, sm_I_fn7, sm_I_fn8, sm_B_bool, sm_B_eql, sm_B_lss, sm_B_not, sm_B_and, sm_B_imp, sm_B_iff]
  rintro ⟨p0, p1, p2, p3, p4, p5, p6, p7, p8, p9, p10⟩
  try generalize E.I ρ (.fn 9 (.pr (.var 2) (.int 4))) = x0 at *
  try generalize E.I ρ (.var 3) = x1 at *
  try generalize E.I ρ (.var 8) = x2 at *
  omega
noncomputable def f18 : E := (.imp (.and (.not (.cmp .lss (.int 80) (.fn 9 (.pr (.var 2) (.int 4))))) (.and (.not (.cmp .lss (.fn 9 (.pr (.var 2) (.int 4))) (.var 3))) (.and (.not (.cmp .lss (.int 80) (.var 3))) (.and (.not (.cmp .lss (.var 3) (.int 0))) (.and (.cmp .lss (.var 3) (.fn 9 (.pr (.var 2) (.int 4)))) (.and (.not (.cmp .lss (.int 80) (.fn 9 (.pr (.var 2) (.int 4))))) (.and (.not (.cmp .lss (.fn 9 (.pr (.var 2) (.int 4))) (.var 3))) (.and (.not (.cmp .lss (.int 80) (.var 3))) (.and (.not (.cmp .lss (.var 3) (.int 0))) (.and (.not (.cmp .lss (.var 3) (.var 8))) (.not (.cmp .lss (.var 8) (.int 0))))))))))))) (.not (.cmp .lss (.int 80) (.ar .add .i64 (.var 3) (.int 1)))))
theorem fact18 (ρ : Env) : E.B ρ f18 = true := by
  unfold f18
  simp only [sm_I_int, sm_I_mn, sm_I_mx, sm_I_add_u64, sm_I_sub_u64, sm_I_add_i64, sm_I_sub_i64, sm_I_mul_i64, sm_I_fn6, sm_I_fn7, sm_I_fn8, sm_B_bool, sm_B_eql, sm_B_lss, sm_B_not, sm_B_and, sm_B_imp, sm_B_iff]
  rintro ⟨p0, p1, p2, p3, p4, p5, p6, p7, p8, p9, p10⟩
  try generalize E.I ρ (.fn 9 (.pr (.var 2) (.int 4))) = x0 at *
  try generalize E.I ρ (.var 3) = x1 at *
  try generalize E.I ρ (.var 8) = x2 at *
  obtain ⟨y0, e0, q0, h0⟩ := cs_i64 (x1 + 1)
  try simp only [e0] at *
  omega
noncomputable def f19 : E := (.imp (.and (.not (.cmp .lss (.int 80) (.fn 9 (.pr (.var 2) (.int 4))))) (.and (.not (.cmp .lss (.fn 9 (.pr (.var 2) (.int 4))) (.var 3))) (.and (.not (.cmp .lss (.int 80) (.var 3))) (.and (.not (.cmp .lss (.var 3) (.int 0))) (.and (.cmp .lss (.var 3) (.fn 9 (.pr (.var 2) (.int 4)))) (.and (.not (.cmp .lss (.int 80) (.fn 9 (.pr (.var 2) (.int 4))))) (.and (.not (.cmp .lss (.fn 9 (.pr (.var 2) (.int 4))) (.var 3))) (.and (.not (.cmp .lss (.int 80) (.var 3))) (.and (.not (.cmp .lss (.var 3) (.int 0))) (.and (.not (.cmp .lss (.var 3) (.var 8))) (.not (.cmp .lss (.var 8) (.int 0))))))))))))) (.not (.cmp .lss (.fn 6 (.pr (.var 3) (.int 1))) (.ar .add .i64 (.var 8) (.int 1)))))
theorem fact19 (ρ : Env) : E.B ρ f19 = true := by
  unfold f19
  simp only [sm_I_int, sm_I_mn, sm_I_mx, sm_I_add_u64, sm_I_sub_u64, sm_I_add_i64, sm_I_sub_i64, sm_I_mul_i64, sm_I_fn6, sm_I_fn7, sm_I_fn8, sm_B_bool, sm_B_eql, sm_B_lss, sm_B_not, sm_B_and, sm_B_imp, sm_B_iff]
  rintro ⟨p0, p1, p2, p3, p4, p5, p6, p7, p8, p9, p10⟩
  try generalize E.I ρ (.fn 9 (.pr (.var 2) (.int 4))) = x0 at *
  try generalize E.I ρ (.var 3) = x1 at *
  try generalize E.I ρ (.var 8) = x2 at *
  obtain ⟨y0, e0, q0, h0⟩ := cs_i64 (x2 + 1)
  try simp only [e0] at *
  omega
noncomputable def f20 : E := (.imp (.and (.fn 33 (.pr (.var 4) (.fn 1 (.pr (.var 2) (.fn 6 (.pr (.fn 8 (.pr (.var 3) (.int 4))) (.int 1))))))) (.and (.cmp .eql (.fn 32 (.pr (.var 4) (.pr (.fn 1 (.pr (.var 2) (.fn 6 (.pr (.fn 8 (.pr (.var 3) (.int 4))) (.int 1))))) (.int 0)))) (.int (-1))) (.and (.not (.cmp .lss (.var 6) (.int 0))) (.and (.not (.cmp .lss (.int 80) (.fn 9 (.pr (.var 2) (.int 4))))) (.and (.not (.cmp .lss (.fn 9 (.pr (.var 2) (.int 4))) (.var 3))) (.and (.not (.cmp .lss (.int 80) (.var 3))) (.and (.not (.cmp .lss (.var 3) (.int 0))) (.and (.cmp .lss (.var 3) (.fn 9 (.pr (.var 2) (.int 4)))) (.and (.not (.cmp .lss (.int 80) (.fn 9 (.pr (.var 2) (.int 4))))) (.and (.not (.cmp .lss (.fn 9 (.pr (.var 2) (.int 4))) (.var 3))) (.and (.not (.cmp .lss (.int 80) (.var 3))) (.and (.not (.cmp .lss (.var 3) (.int 0))) (.and (.not (.cmp .lss (.var 3) (.var 8))) (.and (.not (.cmp .lss (.var 8) (.int 0))) (.fn 111 (.pr (.var 4) (.pr (.var 5) (.pr (.var 6) (.pr (.var 7) (.pr (.var 8) (.pr (.var 9) (.var 10)))))))))))))))))))))) (.cmp .eql (.fn 112 (.pr (.fn 1 (.pr (.var 2) (.fn 6 (.pr (.fn 8 (.pr (.var 3) (.int 4))) (.int 1))))) (.int 0))) (.int 0)))
theorem fact20 (ρ : Env) : E.B ρ f20 = true := by
  unfold f20
  simp only [sm_I_int, sm_I_fn6, sm_I_fn7, sm_I_fn8, sm_B_bool, sm_B_eql, sm_B_lss, sm_B_not, sm_B_and, sm_B_imp, sm_I_add_i64, sm_I_sub_i64, d111, d112, d33, d32, d32b, dL34, dL35, dL10, dd_int, dd_bool]
  rintro ⟨p0, p1, p2, p3, p4, p5, p6, p7, p8, p9, p10, p11, p12, p13, p14⟩
  try generalize E.I ρ (.fn 1 (.pr (.var 2) (.fn 6 (.pr (.fn 8 (.pr (.var 3) (.int 4))) (.int 1))))) = z0 at *
  have hc14 := relH_c p14
  rcases relH_look p14 z0 with ⟨hn, hh, hg⟩ | ⟨v, hn, h1, h2, h3, h4, h5, h6, h7, h8, h9⟩
  all_goals first
    | (rw [cnt_zero]; done)
    | (simp only [cnt_zero]; done)
    | (simp only [cnt_zero]; omega)
noncomputable def f21 : E := (.imp (.and (.fn 33 (.pr (.var 4) (.fn 1 (.pr (.var 2) (.fn 6 (.pr (.fn 8 (.pr (.var 3) (.int 4))) (.int 1))))))) (.and (.cmp .eql (.fn 32 (.pr (.var 4) (.pr (.fn 1 (.pr (.var 2) (.fn 6 (.pr (.fn 8 (.pr (.var 3) (.int 4))) (.int 1))))) (.int 0)))) (.int (-1))) (.and (.cmp .lss (.var 6) (.int 0)) (.and (.not (.cmp .lss (.int 80) (.fn 9 (.pr (.var 2) (.int 4))))) (.and (.not (.cmp .lss (.fn 9 (.pr (.var 2) (.int 4))) (.var 3))) (.and (.not (.cmp .lss (.int 80) (.var 3))) (.and (.not (.cmp .lss (.var 3) (.int 0))) (.and (.cmp .lss (.var 3) (.fn 9 (.pr (.var 2) (.int 4)))) (.and (.not (.cmp .lss (.int 80) (.fn 9 (.pr (.var 2) (.int 4))))) (.and (.not (.cmp .lss (.fn 9 (.pr (.var 2) (.int 4))) (.var 3))) (.and (.not (.cmp .lss (.int 80) (.var 3))) (.and (.not (.cmp .lss (.var 3) (.int 0))) (.and (.not (.cmp .lss (.var 3) (.var 8))) (.and (.not (.cmp .lss (.var 8) (.int 0))) (.fn 111 (.pr (.var 4) (.pr (.var 5) (.pr (.var 6) (.pr (.var 7) (.pr (.var 8) (.pr (.var 9) (.var 10)))))))))))))))))))))) (.cmp .eql (.fn 112 (.pr (.fn 1 (.pr (.var 2) (.fn 6 (.pr (.fn 8 (.pr (.var 3) (.int 4))) (.int 1))))) (.int 0))) (.int 0)))
theorem fact21 (ρ : Env) : E.B ρ f21 = true := by
  unfold f21
  simp only [sm_I_int, sm_I_fn6, sm_I_fn7, sm_I_fn8, sm_B_bool, sm_B_eql, sm_B_lss, sm_B_not, sm_B_and, sm_B_imp, sm_I_add_i64, sm_I_sub_i64, d111, d112, d33, d32, d32b, dL34, dL35, dL10, dd_int, dd_bool]
  rintro ⟨p0, p1, p2, p3, p4, p5, p6, p7, p8, p9, p10, p11, p12, p13, p14⟩
  try generalize E.I ρ (.fn 1 (.pr (.var 2) (.fn 6 (.pr (.fn 8 (.pr (.var 3) (.int 4))) (.int 1))))) = z0 at *
  have hc14 := relH_c p14
  rcases relH_look p14 z0 with ⟨hn, hh, hg⟩ | ⟨v, hn, h1, h2, h3, h4, h5, h6, h7, h8, h9⟩
  all_goals first
    | (rw [cnt_zero]; done)
    | (simp only [cnt_zero]; done)
    | (simp only [cnt_zero]; omega)
noncomputable def f22 : E := (.imp (.and (.not (.cmp .lss (.int 80) (.fn 9 (.pr (.var 2) (.int 4))))) (.and (.not (.cmp .lss (.fn 9 (.pr (.var 2) (.int 4))) (.var 3))) (.and (.not (.cmp .lss (.int 80) (.var 3))) (.and (.not (.cmp .lss (.var 3) (.int 0))) (.and (.cmp .lss (.var 3) (.fn 9 (.pr (.var 2) (.int 4)))) (.and (.not (.cmp .lss (.int 80) (.fn 9 (.pr (.var 2) (.int 4))))) (.and (.not (.cmp .lss (.fn 9 (.pr (.var 2) (.int 4))) (.var 3))) (.and (.not (.cmp .lss (.int 80) (.var 3))) (.and (.not (.cmp .lss (.var 3) (.int 0))) (.and (.not (.cmp .lss (.var 3) (.var 8))) (.not (.cmp .lss (.var 8) (.int 0))))))))))))) (.not (.cmp .lss (.fn 9 (.pr (.var 2) (.int 4))) (.ar .add .i64 (.var 3) (.int 1)))))
theorem fact22 (ρ : Env) : E.B ρ f22 = true := by
  unfold f22
  simp only [sm_I_int, sm_I_mn, sm_I_mx, sm_I_add_u64, sm_I_sub_u64, sm_I_add_i64, sm_I_sub_i64, sm_I_mul_i64, sm_I_fn6, sm_I_fn7, sm_I_fn8, sm_B_bool, sm_B_eql, sm_B_lss, sm_B_not, sm_B_and, sm_B_imp, sm_B_iff]
  rintro ⟨p0, p1, p2, p3, p4, p5, p6, p7, p8, p9, p10⟩
  try generalize E.I ρ (.fn 9 (.pr (.var 2) (.int 4))) = x0 at *
  try generalize E.I ρ (.var 3) = x1 at *
  try generalize E.I ρ (.var 8) = x2 at *
  obtain ⟨y0, e0, q0, h0⟩ := cs_i64 (x1 + 1)
  try simp only [e0] at *
  omega
noncomputable def f23 : E := (.imp (.and (.fn 33 (.pr (.var 4) (.fn 1 (.pr (.var 2) (.fn 6 (.pr (.fn 8 (.pr (.var 3) (.int 4))) (.int 1))))))) (.and (.not (.cmp .eql (.fn 32 (.pr (.var 4) (.pr (.fn 1 (.pr (.var 2) (.fn 6 (.pr (.fn 8 (.pr (.var 3) (.int 4))) (.int 1))))) (.int 0)))) (.int (-1)))) (.and (.cmp .eql (.fn 32 (.pr (.var 4) (.pr (.fn 1 (.pr (.var 2) (.fn 6 (.pr (.fn 8 (.pr (.var 3) (.int 4))) (.int 1))))) (.int 0)))) (.int 0)) (.and (.not (.cmp .lss (.int 80) (.fn 9 (.pr (.var 2) (.int 4))))) (.and (.not (.cmp .lss (.fn 9 (.pr (.var 2) (.int 4))) (.var 3))) (.and (.not (.cmp .lss (.int 80) (.var 3))) (.and (.not (.cmp .lss (.var 3) (.int 0))) (.and (.cmp .lss (.var 3) (.fn 9 (.pr (.var 2) (.int 4)))) (.and (.not (.cmp .lss (.int 80) (.fn 9 (.pr (.var 2) (.int 4))))) (.and (.not (.cmp .lss (.fn 9 (.pr (.var 2) (.int 4))) (.var 3))) (.and (.not (.cmp .lss (.int 80) (.var 3))) (.and (.not (.cmp .lss (.var 3) (.int 0))) (.and (.not (.cmp .lss (.var 3) (.var 8))) (.and (.not (.cmp .lss (.var 8) (.int 0))) (.fn 111 (.pr (.var 4) (.pr (.var 5) (.pr (.var 6) (.pr (.var 7) (.pr (.var 8) (.pr (.var 9) (.var 10)))))))))))))))))))))) (.cmp .eql (.fn 112 (.pr (.int (-1)) (.int 0))) (.int 0)))
theorem fact23 (ρ : Env) : E.B ρ f23 = true := by
  unfold f23
  simp only [sm_I_int, sm_I_fn6, sm_I_fn7, sm_I_fn8, sm_B_bool, sm_B_eql, sm_B_lss, sm_B_not, sm_B_and, sm_B_imp, sm_I_add_i64, sm_I_sub_i64, d111, d112, d33, d32, d32b, dL34, dL35, dL10, dd_int, dd_bool]
  rintro ⟨p0, p1, p2, p3, p4, p5, p6, p7, p8, p9, p10, p11, p12, p13, p14⟩
  try generalize E.I ρ (.fn 1 (.pr (.var 2) (.fn 6 (.pr (.fn 8 (.pr (.var 3) (.int 4))) (.int 1))))) = z0 at *
  have hc14 := relH_c p14
  rcases relH_look p14 z0 with ⟨hn, hh, hg⟩ | ⟨v, hn, h1, h2, h3, h4, h5, h6, h7, h8, h9⟩
  all_goals first
    | (rw [cnt_zero]; done)
    | (simp only [cnt_zero]; done)
    | (simp only [cnt_zero]; omega)
noncomputable def f24 : E := (.imp (.and (.not (.cmp .lss (.int 80) (.fn 9 (.pr (.var 2) (.int 4))))) (.and (.not (.cmp .lss (.fn 9 (.pr (.var 2) (.int 4))) (.var 3))) (.and (.not (.cmp .lss (.int 80) (.var 3))) (.and (.not (.cmp .lss (.var 3) (.int 0))) (.and (.cmp .lss (.var 3) (.fn 9 (.pr (.var 2) (.int 4)))) (.and (.not (.cmp .lss (.int 80) (.fn 9 (.pr (.var 2) (.int 4))))) (.and (.not (.cmp .lss (.fn 9 (.pr (.var 2) (.int 4))) (.var 3))) (.and (.not (.cmp .lss (.int 80) (.var 3))) (.and (.not (.cmp .lss (.var 3) (.int 0))) (.and (.not (.cmp .lss (.var 3) (.var 8))) (.and (.not (.cmp .lss (.var 8) (.int 0))) (.fn 111 (.pr (.var 4) (.pr (.var 5) (.pr (.var 6) (.pr (.var 7) (.pr (.var 8) (.pr (.var 9) (.var 10))))))))))))))))))) (.cmp .eql (.fn 112 (.pr (.var 6) (.int 0))) (.int 0)))
theorem fact24 (ρ : Env) : E.B ρ f24 = true := by
  unfold f24
  simp only [sm_I_int, sm_I_fn6, sm_I_fn7, sm_I_fn8, sm_B_bool, sm_B_eql, sm_B_lss, sm_B_not, sm_B_and, sm_B_imp, sm_I_add_i64, sm_I_sub_i64, d111, d112, d33, d32, d32b, dL34, dL35, dL10, dd_int, dd_bool]
  rintro ⟨p0, p1, p2, p3, p4, p5, p6, p7, p8, p9, p10, p11⟩
  have hc11 := relH_c p11
  have cl := cnt_le
  have cz := cnt_zero
  first
    | (rw [cnt_zero]; done)
    | (simp only [cnt_zero]; done)
    | (simp only [cnt_zero]; omega)
noncomputable def f25 : E := (.imp (.and (.not (.cmp .lss (.int 80) (.fn 9 (.pr (.var 2) (.int 4))))) (.and (.not (.cmp .lss (.fn 9 (.pr (.var 2) (.int 4))) (.var 3))) (.and (.not (.cmp .lss (.int 80) (.var 3))) (.and (.not (.cmp .lss (.var 3) (.int 0))) (.and (.cmp .lss (.var 3) (.fn 9 (.pr (.var 2) (.int 4)))) (.and (.not (.cmp .lss (.int 80) (.fn 9 (.pr (.var 2) (.int 4))))) (.and (.not (.cmp .lss (.fn 9 (.pr (.var 2) (.int 4))) (.var 3))) (.and (.not (.cmp .lss (.int 80) (.var 3))) (.and (.not (.cmp .lss (.var 3) (.int 0))) (.and (.not (.cmp .lss (.var 3) (.var 8))) (.not (.cmp .lss (.var 8) (.int 0))))))))))))) (.cmp .lss (.fn 7 (.pr (.fn 9 (.pr (.var 2) (.int 4))) (.ar .add .i64 (.var 3) (.int 1)))) (.fn 7 (.pr (.fn 9 (.pr (.var 2) (.int 4))) (.var 3)))))
theorem fact25 (ρ : Env) : E.B ρ f25 = true := by
  unfold f25
  simp only [sm_I_int, sm_I_mn, sm_I_mx, sm_I_add_u64, sm_I_sub_u64, sm_I_add_i64, sm_I_sub_i64, sm_I_mul_i64, sm_I_fn6, sm_I_fn7, sm_I_fn8, sm_B_bool, sm_B_eql, sm_B_lss, sm_B_not, sm_B_and, sm_B_imp, sm_B_iff]
  rintro ⟨p0, p1, p2, p3, p4, p5, p6, p7, p8, p9, p10⟩
  try generalize E.I ρ (.fn 9 (.pr (.var 2) (.int 4))) = x0 at *
  try generalize E.I ρ (.var 3) = x1 at *
  try generalize E.I ρ (.var 8) = x2 at *
  obtain ⟨y0, e0, q0, h0⟩ := cs_i64 (x1 + 1)
  try simp only [e0] at *
  omega
noncomputable def f26 : E := (.imp (.and (.fn 33 (.pr (.var 4) (.fn 1 (.pr (.var 2) (.fn 6 (.pr (.fn 8 (.pr (.var 3) (.int 4))) (.int 1))))))) (.and (.cmp .eql (.fn 32 (.pr (.var 4) (.pr (.fn 1 (.pr (.var 2) (.fn 6 (.pr (.fn 8 (.pr (.var 3) (.int 4))) (.int 1))))) (.int 0)))) (.int (-1))) (.and (.not (.cmp .lss (.var 7) (.int 0))) (.and (.not (.cmp .lss (.int 80) (.fn 9 (.pr (.var 2) (.int 4))))) (.and (.not (.cmp .lss (.fn 9 (.pr (.var 2) (.int 4))) (.var 3))) (.and (.not (.cmp .lss (.int 80) (.var 3))) (.and (.not (.cmp .lss (.var 3) (.int 0))) (.and (.cmp .lss (.var 3) (.fn 9 (.pr (.var 2) (.int 4)))) (.and (.not (.cmp .lss (.int 80) (.fn 9 (.pr (.var 2) (.int 4))))) (.and (.not (.cmp .lss (.fn 9 (.pr (.var 2) (.int 4))) (.var 3))) (.and (.not (.cmp .lss (.int 80) (.var 3))) (.and (.not (.cmp .lss (.var 3) (.int 0))) (.and (.not (.cmp .lss (.var 3) (.var 8))) (.and (.not (.cmp .lss (.var 8) (.int 0))) (.fn 111 (.pr (.var 4) (.pr (.var 5) (.pr (.var 6) (.pr (.var 7) (.pr (.var 8) (.pr (.var 9) (.var 10)))))))))))))))))))))) (.cmp .eql (.fn 112 (.pr (.fn 1 (.pr (.var 2) (.fn 6 (.pr (.fn 8 (.pr (.var 3) (.int 4))) (.int 1))))) (.int 0))) (.int 0)))
theorem fact26 (ρ : Env) : E.B ρ f26 = true := by
  unfold f26
  simp only [sm_I_int, sm_I_fn6, sm_I_fn7, sm_I_fn8, sm_B_bool, sm_B_eql, sm_B_lss, sm_B_not, sm_B_and, sm_B_imp, sm_I_add_i64, sm_I_sub_i64, d111, d112, d33, d32, d32b, dL34, dL35, dL10, dd_int, dd_bool]
  rintro ⟨p0, p1, p2, p3, p4, p5, p6, p7, p8, p9, p10, p11, p12, p13, p14⟩
  try generalize E.I ρ (.fn 1 (.pr (.var 2) (.fn 6 (.pr (.fn 8 (.pr (.var 3) (.int 4))) (.int 1))))) = z0 at *
  have hc14 := relH_c p14
  rcases relH_look p14 z0 with ⟨hn, hh, hg⟩ | ⟨v, hn, h1, h2, h3, h4, h5, h6, h7, h8, h9⟩
  all_goals first
    | (rw [cnt_zero]; done)
    | (simp only [cnt_zero]; done)
    | (simp only [cnt_zero]; omega)
noncomputable def f27 : E := (.imp (.and (.fn 33 (.pr (.var 4) (.fn 1 (.pr (.var 2) (.fn 6 (.pr (.fn 8 (.pr (.var 3) (.int 4))) (.int 1))))))) (.and (.cmp .eql (.fn 32 (.pr (.var 4) (.pr (.fn 1 (.pr (.var 2) (.fn 6 (.pr (.fn 8 (.pr (.var 3) (.int 4))) (.int 1))))) (.int 0)))) (.int (-1))) (.and (.cmp .lss (.var 7) (.int 0)) (.and (.not (.cmp .lss (.int 80) (.fn 9 (.pr (.var 2) (.int 4))))) (.and (.not (.cmp .lss (.fn 9 (.pr (.var 2) (.int 4))) (.var 3))) (.and (.not (.cmp .lss (.int 80) (.var 3))) (.and (.not (.cmp .lss (.var 3) (.int 0))) (.and (.cmp .lss (.var 3) (.fn 9 (.pr (.var 2) (.int 4)))) (.and (.not (.cmp .lss (.int 80) (.fn 9 (.pr (.var 2) (.int 4))))) (.and (.not (.cmp .lss (.fn 9 (.pr (.var 2) (.int 4))) (.var 3))) (.and (.not (.cmp .lss (.int 80) (.var 3))) (.and (.not (.cmp .lss (.var 3) (.int 0))) (.and (.not (.cmp .lss (.var 3) (.var 8))) (.and (.not (.cmp .lss (.var 8) (.int 0))) (.fn 111 (.pr (.var 4) (.pr (.var 5) (.pr (.var 6) (.pr (.var 7) (.pr (.var 8) (.pr (.var 9) (.var 10)))))))))))))))))))))) (.cmp .eql (.fn 112 (.pr (.fn 1 (.pr (.var 2) (.fn 6 (.pr (.fn 8 (.pr (.var 3) (.int 4))) (.int 1))))) (.int 0))) (.int 0)))
theorem fact27 (ρ : Env) : E.B ρ f27 = true := by
  unfold f27
  simp only [sm_I_int, sm_I_fn6, sm_I_fn7, sm_I_fn8, sm_B_bool, sm_B_eql, sm_B_lss, sm_B_not, sm_B_and, sm_B_imp, sm_I_add_i64, sm_I_sub_i64, d111, d112, d33, d32, d32b, dL34, dL35, dL10, dd_int, dd_bool]
  rintro ⟨p0, p1, p2, p3, p4, p5, p6, p7, p8, p9, p10, p11, p12, p13, p14⟩
  try generalize E.I ρ (.fn 1 (.pr (.var 2) (.fn 6 (.pr (.fn 8 (.pr (.var 3) (.int 4))) (.int 1))))) = z0 at *
  have hc14 := relH_c p14
  rcases relH_look p14 z0 with ⟨hn, hh, hg⟩ | ⟨v, hn, h1, h2, h3, h4, h5, h6, h7, h8, h9⟩
  all_goals first
    | (rw [cnt_zero]; done)
    | (simp only [cnt_zero]; done)
    | (simp only [cnt_zero]; omega)
noncomputable def f28 : E := (.imp (.and (.fn 33 (.pr (.var 4) (.fn 1 (.pr (.var 2) (.fn 6 (.pr (.fn 8 (.pr (.var 3) (.int 4))) (.int 1))))))) (.and (.not (.cmp .eql (.fn 32 (.pr (.var 4) (.pr (.fn 1 (.pr (.var 2) (.fn 6 (.pr (.fn 8 (.pr (.var 3) (.int 4))) (.int 1))))) (.int 0)))) (.int (-1)))) (.and (.not (.cmp .eql (.fn 32 (.pr (.var 4) (.pr (.fn 1 (.pr (.var 2) (.fn 6 (.pr (.fn 8 (.pr (.var 3) (.int 4))) (.int 1))))) (.int 0)))) (.int 0))) (.and (.not (.cmp .lss (.int 80) (.fn 9 (.pr (.var 2) (.int 4))))) (.and (.not (.cmp .lss (.fn 9 (.pr (.var 2) (.int 4))) (.var 3))) (.and (.not (.cmp .lss (.int 80) (.var 3))) (.and (.not (.cmp .lss (.var 3) (.int 0))) (.and (.cmp .lss (.var 3) (.fn 9 (.pr (.var 2) (.int 4)))) (.and (.not (.cmp .lss (.int 80) (.fn 9 (.pr (.var 2) (.int 4))))) (.and (.not (.cmp .lss (.fn 9 (.pr (.var 2) (.int 4))) (.var 3))) (.and (.not (.cmp .lss (.int 80) (.var 3))) (.and (.not (.cmp .lss (.var 3) (.int 0))) (.and (.not (.cmp .lss (.var 3) (.var 8))) (.and (.not (.cmp .lss (.var 8) (.int 0))) (.fn 111 (.pr (.var 4) (.pr (.var 5) (.pr (.var 6) (.pr (.var 7) (.pr (.var 8) (.pr (.var 9) (.var 10)))))))))))))))))))))) (.cmp .eql (.fn 112 (.pr (.int (-1)) (.int 0))) (.int 0)))
theorem fact28 (ρ : Env) : E.B ρ f28 = true := by
  unfold f28
  simp only [sm_I_int, sm_I_fn6, sm_I_fn7, sm_I_fn8, sm_B_bool, sm_B_eql, sm_B_lss, sm_B_not, sm_B_and, sm_B_imp, sm_I_add_i64, sm_I_sub_i64, d111, d112, d33, d32, d32b, dL34, dL35, dL10, dd_int, dd_bool]
  rintro ⟨p0, p1, p2, p3, p4, p5, p6, p7, p8, p9, p10, p11, p12, p13, p14⟩
  try generalize E.I ρ (.fn 1 (.pr (.var 2) (.fn 6 (.pr (.fn 8 (.pr (.var 3) (.int 4))) (.int 1))))) = z0 at *
  have hc14 := relH_c p14
  rcases relH_look p14 z0 with ⟨hn, hh, hg⟩ | ⟨v, hn, h1, h2, h3, h4, h5, h6, h7, h8, h9⟩
  all_goals first
    | (rw [cnt_zero]; done)
    | (simp only [cnt_zero]; done)
    | (simp only [cnt_zero]; omega)
noncomputable def f29 : E := (.imp (.and (.not (.cmp .lss (.int 80) (.fn 9 (.pr (.var 2) (.int 4))))) (.and (.not (.cmp .lss (.fn 9 (.pr (.var 2) (.int 4))) (.var 3))) (.and (.not (.cmp .lss (.int 80) (.var 3))) (.and (.not (.cmp .lss (.var 3) (.int 0))) (.and (.cmp .lss (.var 3) (.fn 9 (.pr (.var 2) (.int 4)))) (.and (.not (.cmp .lss (.int 80) (.fn 9 (.pr (.var 2) (.int 4))))) (.and (.not (.cmp .lss (.fn 9 (.pr (.var 2) (.int 4))) (.var 3))) (.and (.not (.cmp .lss (.int 80) (.var 3))) (.and (.not (.cmp .lss (.var 3) (.int 0))) (.and (.not (.cmp .lss (.var 3) (.var 8))) (.and (.not (.cmp .lss (.var 8) (.int 0))) (.fn 111 (.pr (.var 4) (.pr (.var 5) (.pr (.var 6) (.pr (.var 7) (.pr (.var 8) (.pr (.var 9) (.var 10))))))))))))))))))) (.cmp .eql (.fn 112 (.pr (.var 7) (.int 0))) (.int 0)))
theorem fact29 (ρ : Env) : E.B ρ f29 = true := by
  unfold f29
  simp only [sm_I_int, sm_I_fn6, sm_I_fn7, sm_I_fn8, sm_B_bool, sm_B_eql, sm_B_lss, sm_B_not, sm_B_and, sm_B_imp, sm_I_add_i64, sm_I_sub_i64, d111, d112, d33, d32, d32b, dL34, dL35, dL10, dd_int, dd_bool]
  rintro ⟨p0, p1, p2, p3, p4, p5, p6, p7, p8, p9, p10, p11⟩
  have hc11 := relH_c p11
  have cl := cnt_le
  have cz := cnt_zero
  first
    | (rw [cnt_zero]; done)
    | (simp only [cnt_zero]; done)
    | (simp only [cnt_zero]; omega)
noncomputable def f30 : E := (.imp (.and (.not (.cmp .lss (.int 80) (.fn 9 (.pr (.var 2) (.int 4))))) (.and (.not (.cmp .lss (.fn 9 (.pr (.var 2) (.int 4))) (.var 3))) (.and (.not (.cmp .lss (.int 80) (.var 3))) (.and (.not (.cmp .lss (.var 3) (.int 0))) (.and (.cmp .lss (.var 3) (.fn 9 (.pr (.var 2) (.int 4)))) (.and (.not (.cmp .lss (.var 25) (.var 28))) (.and (.not (.cmp .lss (.var 28) (.int 0))) (.and (.not (.cmp .lss (.fn 6 (.pr (.var 3) (.int 1))) (.var 25))) (.and (.not (.cmp .lss (.var 25) (.int 0))) (.and (.not (.cmp .lss (.int 80) (.fn 9 (.pr (.var 2) (.int 4))))) (.and (.not (.cmp .lss (.fn 9 (.pr (.var 2) (.int 4))) (.var 3))) (.and (.not (.cmp .lss (.int 80) (.var 3))) (.not (.cmp .lss (.var 3) (.int 0))))))))))))))) (.not (.cmp .lss (.ar .add .i64 (.var 28) (.int 1)) (.int 0))))
theorem fact30 (ρ : Env) : E.B ρ f30 = true := by
  unfold f30
  simp only [sm_I_int, sm_I_mn, sm_I_mx, sm_I_add_u64, sm_I_sub_u64, sm_I_add_i64, sm_I_sub_i64, sm_I_mul_i64, sm_I_fn6, sm_I_fn7, sm_I_fn8, sm_B_bool, sm_B_eql, sm_B_lss, sm_B_not, sm_B_and, sm_B_imp, sm_B_iff]
  rintro ⟨p0, p1, p2, p3, p4, p5, p6, p7, p8, p9, p10, p11, p12⟩
  try generalize E.I ρ (.fn 9 (.pr (.var 2) (.int 4))) = x0 at *
  try generalize E.I ρ (.var 3) = x1 at *
  try generalize E.I ρ (.var 25) = x2 at *
  try generalize E.I ρ (.var 28) = x3 at *
  obtain ⟨y0, e0, q0, h0⟩ := cs_i64 (x3 + 1)
  try simp only [e0] at *
  omega
noncomputable def f31 : E := (.imp (.and (.cmp .lss (.var 28) (.var 25)) (.and (.fn 33 (.pr (.var 21) (.var 28))) (.and (.not (.cmp .eql (.fn 32 (.pr (.var 21) (.pr (.var 28) (.int 0)))) (.int (-1)))) (.and (.not (.cmp .lss (.int 80) (.fn 9 (.pr (.var 2) (.int 4))))) (.and (.not (.cmp .lss (.fn 9 (.pr (.var 2) (.int 4))) (.var 3))) (.and (.not (.cmp .lss (.int 80) (.var 3))) (.and (.not (.cmp .lss (.var 3) (.int 0))) (.and (.cmp .lss (.var 3) (.fn 9 (.pr (.var 2) (.int 4)))) (.and (.cmp .eql (.var 30) (.fn 112 (.pr (.var 24) (.var 28)))) (.and (.cmp .eql (.var 29) (.fn 112 (.pr (.var 23) (.var 28)))) (.and (.not (.cmp .lss (.var 25) (.var 28))) (.and (.not (.cmp .lss (.var 28) (.int 0))) (.and (.not (.cmp .lss (.fn 6 (.pr (.var 3) (.int 1))) (.var 25))) (.and (.not (.cmp .lss (.var 25) (.int 0))) (.and (.fn 111 (.pr (.var 21) (.pr (.var 22) (.pr (.var 23) (.pr (.var 24) (.pr (.var 25) (.pr (.var 26) (.var 27)))))))) (.and (.not (.cmp .lss (.int 80) (.fn 9 (.pr (.var 2) (.int 4))))) (.and (.not (.cmp .lss (.fn 9 (.pr (.var 2) (.int 4))) (.var 3))) (.and (.not (.cmp .lss (.int 80) (.var 3))) (.not (.cmp .lss (.var 3) (.int 0))))))))))))))))))))) (.not (.fn 32 (.pr (.var 22) (.pr (.var 28) (.bool false))))))
theorem fact31 (ρ : Env) : E.B ρ f31 = true := by
  unfold f31
  simp only [sm_I_int, sm_I_fn6, sm_I_fn7, sm_I_fn8, sm_B_bool, sm_B_eql, sm_B_lss, sm_B_not, sm_B_and, sm_B_imp, sm_I_add_i64, sm_I_sub_i64, d111, d112, d33, d32, d32b, dL34, dL35, dL10, dd_int, dd_bool]
  rintro ⟨p0, p1, p2, p3, p4, p5, p6, p7, p8, p9, p10, p11, p12, p13, p14, p15, p16, p17, p18⟩
  have hc14 := relH_c p14
  have cq0 := cnt_le (E.I ρ (.var 24)) (E.I ρ (.var 28))
  have cq1 := cnt_le (E.I ρ (.var 23)) (E.I ρ (.var 28))
  rcases relH_look p14 (E.I ρ (.var 28)) with ⟨hn, hh, hg⟩ | ⟨v, hn, h1, h2, h3, h4, h5, h6, h7, h8, h9⟩
  · first
      | (exfalso; simp only [hn] at *; simp_all; done)
      | (rw [hn]; simp; done)
      | exact hh (by omega) (by omega)
      | (simp only [hn, Option.isSome_none, Option.getD_none, U.toI] at *; omega)
      | (simp only [hn, Option.isSome_none, Option.getD_none, U.toI] at *; simp_all; done)
  · simp only [hn, Option.isSome_some, Option.getD_some] at *
    first
      | omega
      | (rw [h3]; simp; done)
      | exact (h6 (by omega)).2
      | exact (h7 (by omega)).2
      | exact (h6 (by omega)).1.symm
      | exact (h7 (by omega)).1.symm
      | (simp_all; done)
      | (simp_all; omega)
noncomputable def f32 : E := (.imp (.and (.cmp .lss (.var 28) (.var 25)) (.and (.fn 33 (.pr (.var 21) (.var 28))) (.and (.cmp .eql (.fn 32 (.pr (.var 21) (.pr (.var 28) (.int 0)))) (.int (-1))) (.and (.not (.cmp .lss (.int 80) (.fn 9 (.pr (.var 2) (.int 4))))) (.and (.not (.cmp .lss (.fn 9 (.pr (.var 2) (.int 4))) (.var 3))) (.and (.not (.cmp .lss (.int 80) (.var 3))) (.and (.not (.cmp .lss (.var 3) (.int 0))) (.and (.cmp .lss (.var 3) (.fn 9 (.pr (.var 2) (.int 4)))) (.and (.cmp .eql (.var 30) (.fn 112 (.pr (.var 24) (.var 28)))) (.and (.cmp .eql (.var 29) (.fn 112 (.pr (.var 23) (.var 28)))) (.and (.not (.cmp .lss (.var 25) (.var 28))) (.and (.not (.cmp .lss (.var 28) (.int 0))) (.and (.not (.cmp .lss (.fn 6 (.pr (.var 3) (.int 1))) (.var 25))) (.and (.not (.cmp .lss (.var 25) (.int 0))) (.and (.fn 111 (.pr (.var 21) (.pr (.var 22) (.pr (.var 23) (.pr (.var 24) (.pr (.var 25) (.pr (.var 26) (.var 27)))))))) (.and (.not (.cmp .lss (.int 80) (.fn 9 (.pr (.var 2) (.int 4))))) (.and (.not (.cmp .lss (.fn 9 (.pr (.var 2) (.int 4))) (.var 3))) (.and (.not (.cmp .lss (.int 80) (.var 3))) (.not (.cmp .lss (.var 3) (.int 0))))))))))))))))))))) (.not (.fn 32 (.pr (.var 22) (.pr (.var 28) (.bool false))))))
theorem fact32 (ρ : Env) : E.B ρ f32 = true := by
  unfold f32
  simp only [sm_I_int, sm_I_fn6, sm_I_fn7, sm_I_fn8, sm_B_bool, sm_B_eql, sm_B_lss, sm_B_not, sm_B_and, sm_B_imp, sm_I_add_i64, sm_I_sub_i64, d111, d112, d33, d32, d32b, dL34, dL35, dL10, dd_int, dd_bool]
  rintro ⟨p0, p1, p2, p3, p4, p5, p6, p7, p8, p9, p10, p11, p12, p13, p14, p15, p16, p17, p18⟩
  have hc14 := relH_c p14
  have cq0 := cnt_le (E.I ρ (.var 24)) (E.I ρ (.var 28))
  have cq1 := cnt_le (E.I ρ (.var 23)) (E.I ρ (.var 28))
  rcases relH_look p14 (E.I ρ (.var 28)) with ⟨hn, hh, hg⟩ | ⟨v, hn, h1, h2, h3, h4, h5, h6, h7, h8, h9⟩
  · first
      | (exfalso; simp only [hn] at *; simp_all; done)
      | (rw [hn]; simp; done)
      | exact hh (by omega) (by omega)
      | (simp only [hn, Option.isSome_none, Option.getD_none, U.toI] at *; omega)
      | (simp only [hn, Option.isSome_none, Option.getD_none, U.toI] at *; simp_all; done)
  · simp only [hn, Option.isSome_some, Option.getD_some] at *
    first
      | omega
      | (rw [h3]; simp; done)
      | exact (h6 (by omega)).2
      | exact (h7 (by omega)).2
      | exact (h6 (by omega)).1.symm
      | exact (h7 (by omega)).1.symm
      | (simp_all; done)
      | (simp_all; omega)
noncomputable def f33 : E := (.imp (.and (.cmp .lss (.var 28) (.var 25)) (.and (.not (.cmp .lss (.int 80) (.fn 9 (.pr (.var 2) (.int 4))))) (.and (.not (.cmp .lss (.fn 9 (.pr (.var 2) (.int 4))) (.var 3))) (.and (.not (.cmp .lss (.int 80) (.var 3))) (.and (.not (.cmp .lss (.var 3) (.int 0))) (.and (.cmp .lss (.var 3) (.fn 9 (.pr (.var 2) (.int 4)))) (.and (.not (.cmp .lss (.var 25) (.var 28))) (.and (.not (.cmp .lss (.var 28) (.int 0))) (.and (.not (.cmp .lss (.fn 6 (.pr (.var 3) (.int 1))) (.var 25))) (.and (.not (.cmp .lss (.var 25) (.int 0))) (.and (.not (.cmp .lss (.int 80) (.fn 9 (.pr (.var 2) (.int 4))))) (.and (.not (.cmp .lss (.fn 9 (.pr (.var 2) (.int 4))) (.var 3))) (.and (.not (.cmp .lss (.int 80) (.var 3))) (.not (.cmp .lss (.var 3) (.int 0)))))))))))))))) (.not (.cmp .lss (.var 25) (.ar .add .i64 (.var 28) (.int 1)))))
theorem fact33 (ρ : Env) : E.B ρ f33 = true := by
  unfold f33
  simp only [sm_I_int, sm_I_mn, sm_I_mx, sm_I_add_u64, sm_I_sub_u64, sm_I_add_i64, sm_I_sub_i64, sm_I_mul_i64, sm_I_fn6, sm_I_fn7, sm_I_fn8, sm_B_bool, sm_B_eql, sm_B_lss, sm_B_not, sm_B_and, sm_B_imp, sm_B_iff]
  rintro ⟨p0, p1, p2, p3, p4, p5, p6, p7, p8, p9, p10, p11, p12, p13⟩
  try generalize E.I ρ (.var 28) = x0 at *
  try generalize E.I ρ (.var 25) = x1 at *
  try generalize E.I ρ (.fn 9 (.pr (.var 2) (.int 4))) = x2 at *
  try generalize E.I ρ (.var 3) = x3 at *
  obtain ⟨y0, e0, q0, h0⟩ := cs_i64 (x0 + 1)
  try simp only [e0] at *
  omega
noncomputable def f34 : E := (.imp (.and (.cmp .lss (.var 28) (.var 25)) (.and (.fn 33 (.pr (.var 21) (.var 28))) (.and (.not (.cmp .eql (.fn 32 (.pr (.var 21) (.pr (.var 28) (.int 0)))) (.int (-1)))) (.and (.not (.cmp .eql (.fn 32 (.pr (.var 21) (.pr (.var 28) (.int 0)))) (.int 0))) (.and (.not (.cmp .lss (.int 80) (.fn 9 (.pr (.var 2) (.int 4))))) (.and (.not (.cmp .lss (.fn 9 (.pr (.var 2) (.int 4))) (.var 3))) (.and (.not (.cmp .lss (.int 80) (.var 3))) (.and (.not (.cmp .lss (.var 3) (.int 0))) (.and (.cmp .lss (.var 3) (.fn 9 (.pr (.var 2) (.int 4)))) (.and (.cmp .eql (.var 30) (.fn 112 (.pr (.var 24) (.var 28)))) (.and (.cmp .eql (.var 29) (.fn 112 (.pr (.var 23) (.var 28)))) (.and (.not (.cmp .lss (.var 25) (.var 28))) (.and (.not (.cmp .lss (.var 28) (.int 0))) (.and (.not (.cmp .lss (.fn 6 (.pr (.var 3) (.int 1))) (.var 25))) (.and (.not (.cmp .lss (.var 25) (.int 0))) (.and (.fn 111 (.pr (.var 21) (.pr (.var 22) (.pr (.var 23) (.pr (.var 24) (.pr (.var 25) (.pr (.var 26) (.var 27)))))))) (.and (.not (.cmp .lss (.int 80) (.fn 9 (.pr (.var 2) (.int 4))))) (.and (.not (.cmp .lss (.fn 9 (.pr (.var 2) (.int 4))) (.var 3))) (.and (.not (.cmp .lss (.int 80) (.var 3))) (.not (.cmp .lss (.var 3) (.int 0)))))))))))))))))))))) (.cmp .eql (.fn 32 (.pr (.var 21) (.pr (.var 28) (.int 0)))) (.int 1)))
theorem fact34 (ρ : Env) : E.B ρ f34 = true := by
  unfold f34
  simp only [sm_I_int, sm_I_fn6, sm_I_fn7, sm_I_fn8, sm_B_bool, sm_B_eql, sm_B_lss, sm_B_not, sm_B_and, sm_B_imp, sm_I_add_i64, sm_I_sub_i64, d111, d112, d33, d32, d32b, dL34, dL35, dL10, dd_int, dd_bool]
  rintro ⟨p0, p1, p2, p3, p4, p5, p6, p7, p8, p9, p10, p11, p12, p13, p14, p15, p16, p17, p18, p19⟩
  have hc15 := relH_c p15
  have cq0 := cnt_le (E.I ρ (.var 24)) (E.I ρ (.var 28))
  have cq1 := cnt_le (E.I ρ (.var 23)) (E.I ρ (.var 28))
  rcases relH_look p15 (E.I ρ (.var 28)) with ⟨hn, hh, hg⟩ | ⟨v, hn, h1, h2, h3, h4, h5, h6, h7, h8, h9⟩
  · first
      | (exfalso; simp only [hn] at *; simp_all; done)
      | (rw [hn]; simp; done)
      | exact hh (by omega) (by omega)
      | (simp only [hn, Option.isSome_none, Option.getD_none, U.toI] at *; omega)
      | (simp only [hn, Option.isSome_none, Option.getD_none, U.toI] at *; simp_all; done)
  · simp only [hn, Option.isSome_some, Option.getD_some] at *
    first
      | omega
      | (rw [h3]; simp; done)
      | exact (h6 (by omega)).2
      | exact (h7 (by omega)).2
      | exact (h6 (by omega)).1.symm
      | exact (h7 (by omega)).1.symm
      | (simp_all; done)
      | (simp_all; omega)
noncomputable def f35 : E := (.imp (.and (.not (.cmp .lss (.int 80) (.fn 9 (.pr (.var 2) (.int 4))))) (.and (.not (.cmp .lss (.fn 9 (.pr (.var 2) (.int 4))) (.var 3))) (.and (.not (.cmp .lss (.int 80) (.var 3))) (.and (.not (.cmp .lss (.var 3) (.int 0))) (.and (.cmp .lss (.var 3) (.fn 9 (.pr (.var 2) (.int 4)))) (.and (.cmp .eql (.var 30) (.fn 112 (.pr (.var 24) (.var 28)))) (.and (.cmp .eql (.var 29) (.fn 112 (.pr (.var 23) (.var 28)))) (.and (.not (.cmp .lss (.var 25) (.var 28))) (.and (.not (.cmp .lss (.var 28) (.int 0))) (.and (.not (.cmp .lss (.fn 6 (.pr (.var 3) (.int 1))) (.var 25))) (.and (.not (.cmp .lss (.var 25) (.int 0))) (.and (.fn 111 (.pr (.var 21) (.pr (.var 22) (.pr (.var 23) (.pr (.var 24) (.pr (.var 25) (.pr (.var 26) (.var 27)))))))) (.and (.cmp .lss (.var 28) (.var 25)) (.and (.fn 33 (.pr (.var 21) (.var 28))) (.and (.not (.cmp .eql (.fn 32 (.pr (.var 21) (.pr (.var 28) (.int 0)))) (.int (-1)))) (.cmp .eql (.fn 32 (.pr (.var 21) (.pr (.var 28) (.int 0)))) (.int 0))))))))))))))))) (.var 26))
theorem fact35 (ρ : Env) : E.B ρ f35 = true := by
  unfold f35
  simp only [sm_I_int, sm_I_fn6, sm_I_fn7, sm_I_fn8, sm_B_bool, sm_B_eql, sm_B_lss, sm_B_not, sm_B_and, sm_B_imp, sm_I_add_i64, sm_I_sub_i64, d111, d112, d33, d32, d32b, dL34, dL35, dL10, dd_int, dd_bool]
  rintro ⟨p0, p1, p2, p3, p4, p5, p6, p7, p8, p9, p10, p11, p12, p13, p14, p15⟩
  have hc11 := relH_c p11
  have cq0 := cnt_le (E.I ρ (.var 24)) (E.I ρ (.var 28))
  have cq1 := cnt_le (E.I ρ (.var 23)) (E.I ρ (.var 28))
  rcases relH_look p11 (E.I ρ (.var 28)) with ⟨hn, hh, hg⟩ | ⟨v, hn, h1, h2, h3, h4, h5, h6, h7, h8, h9⟩
  · first
      | (exfalso; simp only [hn] at *; simp_all; done)
      | (rw [hn]; simp; done)
      | exact hh (by omega) (by omega)
      | (simp only [hn, Option.isSome_none, Option.getD_none, U.toI] at *; omega)
      | (simp only [hn, Option.isSome_none, Option.getD_none, U.toI] at *; simp_all; done)
  · simp only [hn, Option.isSome_some, Option.getD_some] at *
    first
      | omega
      | (rw [h3]; simp; done)
      | exact (h6 (by omega)).2
      | exact (h7 (by omega)).2
      | exact (h6 (by omega)).1.symm
      | exact (h7 (by omega)).1.symm
      | (simp_all; done)
      | (simp_all; omega)
noncomputable def f36 : E := (.imp (.and (.cmp .lss (.var 28) (.var 25)) (.and (.not (.fn 33 (.pr (.var 21) (.var 28)))) (.and (.not (.cmp .lss (.int 80) (.fn 9 (.pr (.var 2) (.int 4))))) (.and (.not (.cmp .lss (.fn 9 (.pr (.var 2) (.int 4))) (.var 3))) (.and (.not (.cmp .lss (.int 80) (.var 3))) (.and (.not (.cmp .lss (.var 3) (.int 0))) (.and (.cmp .lss (.var 3) (.fn 9 (.pr (.var 2) (.int 4)))) (.and (.cmp .eql (.var 30) (.fn 112 (.pr (.var 24) (.var 28)))) (.and (.cmp .eql (.var 29) (.fn 112 (.pr (.var 23) (.var 28)))) (.and (.not (.cmp .lss (.var 25) (.var 28))) (.and (.not (.cmp .lss (.var 28) (.int 0))) (.and (.not (.cmp .lss (.fn 6 (.pr (.var 3) (.int 1))) (.var 25))) (.and (.not (.cmp .lss (.var 25) (.int 0))) (.and (.fn 111 (.pr (.var 21) (.pr (.var 22) (.pr (.var 23) (.pr (.var 24) (.pr (.var 25) (.pr (.var 26) (.var 27)))))))) (.and (.not (.cmp .lss (.int 80) (.fn 9 (.pr (.var 2) (.int 4))))) (.and (.not (.cmp .lss (.fn 9 (.pr (.var 2) (.int 4))) (.var 3))) (.and (.not (.cmp .lss (.int 80) (.var 3))) (.not (.cmp .lss (.var 3) (.int 0)))))))))))))))))))) (.fn 32 (.pr (.var 22) (.pr (.var 28) (.bool false)))))
theorem fact36 (ρ : Env) : E.B ρ f36 = true := by
  unfold f36
  simp only [sm_I_int, sm_I_fn6, sm_I_fn7, sm_I_fn8, sm_B_bool, sm_B_eql, sm_B_lss, sm_B_not, sm_B_and, sm_B_imp, sm_I_add_i64, sm_I_sub_i64, d111, d112, d33, d32, d32b, dL34, dL35, dL10, dd_int, dd_bool]
  rintro ⟨p0, p1, p2, p3, p4, p5, p6, p7, p8, p9, p10, p11, p12, p13, p14, p15, p16, p17⟩
  have hc13 := relH_c p13
  have cq0 := cnt_le (E.I ρ (.var 24)) (E.I ρ (.var 28))
  have cq1 := cnt_le (E.I ρ (.var 23)) (E.I ρ (.var 28))
  rcases relH_look p13 (E.I ρ (.var 28)) with ⟨hn, hh, hg⟩ | ⟨v, hn, h1, h2, h3, h4, h5, h6, h7, h8, h9⟩
  · first
      | (exfalso; simp only [hn] at *; simp_all; done)
      | (rw [hn]; simp; done)
      | exact hh (by omega) (by omega)
      | (simp only [hn, Option.isSome_none, Option.getD_none, U.toI] at *; omega)
      | (simp only [hn, Option.isSome_none, Option.getD_none, U.toI] at *; simp_all; done)
  · simp only [hn, Option.isSome_some, Option.getD_some] at *
    first
      | omega
      | (rw [h3]; simp; done)
      | exact (h6 (by omega)).2
      | exact (h7 (by omega)).2
      | exact (h6 (by omega)).1.symm
      | exact (h7 (by omega)).1.symm
      | (simp_all; done)
      | (simp_all; omega)
noncomputable def f37 : E := (.imp (.and (.not (.cmp .lss (.int 80) (.fn 9 (.pr (.var 2) (.int 4))))) (.and (.not (.cmp .lss (.fn 9 (.pr (.var 2) (.int 4))) (.var 3))) (.and (.not (.cmp .lss (.int 80) (.var 3))) (.and (.not (.cmp .lss (.var 3) (.int 0))) (.and (.cmp .lss (.var 3) (.fn 9 (.pr (.var 2) (.int 4)))) (.and (.cmp .eql (.var 30) (.fn 112 (.pr (.var 24) (.var 28)))) (.and (.cmp .eql (.var 29) (.fn 112 (.pr (.var 23) (.var 28)))) (.and (.not (.cmp .lss (.var 25) (.var 28))) (.and (.not (.cmp .lss (.var 28) (.int 0))) (.and (.not (.cmp .lss (.fn 6 (.pr (.var 3) (.int 1))) (.var 25))) (.and (.not (.cmp .lss (.var 25) (.int 0))) (.and (.fn 111 (.pr (.var 21) (.pr (.var 22) (.pr (.var 23) (.pr (.var 24) (.pr (.var 25) (.pr (.var 26) (.var 27)))))))) (.and (.not (.cmp .lss (.int 80) (.fn 9 (.pr (.var 2) (.int 4))))) (.and (.not (.cmp .lss (.fn 9 (.pr (.var 2) (.int 4))) (.var 3))) (.and (.not (.cmp .lss (.int 80) (.var 3))) (.not (.cmp .lss (.var 3) (.int 0)))))))))))))))))) (.not (.cmp .lss (.int 1) (.var 30))))
theorem fact37 (ρ : Env) : E.B ρ f37 = true := by
  unfold f37
  simp only [sm_I_int, sm_I_fn6, sm_I_fn7, sm_I_fn8, sm_B_bool, sm_B_eql, sm_B_lss, sm_B_not, sm_B_and, sm_B_imp, sm_I_add_i64, sm_I_sub_i64, d111, d112, d33, d32, d32b, dL34, dL35, dL10, dd_int, dd_bool]
  rintro ⟨p0, p1, p2, p3, p4, p5, p6, p7, p8, p9, p10, p11, p12, p13, p14, p15⟩
  have hc11 := relH_c p11
  have cq0 := cnt_le (E.I ρ (.var 24)) (E.I ρ (.var 28))
  have cq1 := cnt_le (E.I ρ (.var 23)) (E.I ρ (.var 28))
  have cl := cnt_le
  have cz := cnt_zero
  have cl0 := cnt_le (E.I ρ (.var 24)) (E.I ρ (.var 28))
  have cl1 := cnt_le (E.I ρ (.var 23)) (E.I ρ (.var 28))
  first
    | omega
    | (simp_all; done)
    | (simp_all; omega)
noncomputable def f38 : E := (.imp (.and (.not (.cmp .lss (.int 80) (.fn 9 (.pr (.var 2) (.int 4))))) (.and (.not (.cmp .lss (.fn 9 (.pr (.var 2) (.int 4))) (.var 3))) (.and (.not (.cmp .lss (.int 80) (.var 3))) (.and (.not (.cmp .lss (.var 3) (.int 0))) (.and (.cmp .lss (.var 3) (.fn 9 (.pr (.var 2) (.int 4)))) (.and (.not (.cmp .lss (.var 25) (.var 28))) (.and (.not (.cmp .lss (.var 28) (.int 0))) (.and (.not (.cmp .lss (.fn 6 (.pr (.var 3) (.int 1))) (.var 25))) (.and (.not (.cmp .lss (.var 25) (.int 0))) (.and (.not (.cmp .lss (.int 80) (.fn 9 (.pr (.var 2) (.int 4))))) (.and (.not (.cmp .lss (.fn 9 (.pr (.var 2) (.int 4))) (.var 3))) (.and (.not (.cmp .lss (.int 80) (.var 3))) (.not (.cmp .lss (.var 3) (.int 0))))))))))))))) (.not (.cmp .lss (.ar .add .i64 (.var 3) (.int 1)) (.var 25))))
theorem fact38 (ρ : Env) : E.B ρ f38 = true := by
  unfold f38
  simp only [sm_I_int, sm_I_mn, sm_I_mx, sm_I_add_u64, sm_I_sub_u64, sm_I_add_i64, sm_I_sub_i64, sm_I_mul_i64, sm_I_fn6, sm_I_fn7, sm_I_fn8, sm_B_bool, sm_B_eql, sm_B_lss, sm_B_not, sm_B_and, sm_B_imp, sm_B_iff]
  rintro ⟨p0, p1, p2, p3, p4, p5, p6, p7, p8, p9, p10, p11, p12⟩
  try generalize E.I ρ (.fn 9 (.pr (.var 2) (.int 4))) = x0 at *
  try generalize E.I ρ (.var 3) = x1 at *
  try generalize E.I ρ (.var 25) = x2 at *
  try generalize E.I ρ (.var 28) = x3 at *
  obtain ⟨y0, e0, q0, h0⟩ := cs_i64 (x1 + 1)
  try simp only [e0] at *
  omega
noncomputable def f39 : E := (.imp (.and (.not (.cmp .lss (.int 80) (.fn 9 (.pr (.var 2) (.int 4))))) (.and (.not (.cmp .lss (.fn 9 (.pr (.var 2) (.int 4))) (.var 3))) (.and (.not (.cmp .lss (.int 80) (.var 3))) (.and (.not (.cmp .lss (.var 3) (.int 0))) (.and (.cmp .lss (.var 3) (.fn 9 (.pr (.var 2) (.int 4)))) (.and (.cmp .eql (.var 30) (.fn 112 (.pr (.var 24) (.var 28)))) (.and (.cmp .eql (.var 29) (.fn 112 (.pr (.var 23) (.var 28)))) (.and (.not (.cmp .lss (.var 25) (.var 28))) (.and (.not (.cmp .lss (.var 28) (.int 0))) (.and (.not (.cmp .lss (.fn 6 (.pr (.var 3) (.int 1))) (.var 25))) (.and (.not (.cmp .lss (.var 25) (.int 0))) (.and (.fn 111 (.pr (.var 21) (.pr (.var 22) (.pr (.var 23) (.pr (.var 24) (.pr (.var 25) (.pr (.var 26) (.var 27)))))))) (.and (.cmp .lss (.var 28) (.var 25)) (.and (.fn 33 (.pr (.var 21) (.var 28))) (.and (.not (.cmp .eql (.fn 32 (.pr (.var 21) (.pr (.var 28) (.int 0)))) (.int (-1)))) (.not (.cmp .eql (.fn 32 (.pr (.var 21) (.pr (.var 28) (.int 0)))) (.int 0)))))))))))))))))) (.var 27))
theorem fact39 (ρ : Env) : E.B ρ f39 = true := by
  unfold f39
  simp only [sm_I_int, sm_I_fn6, sm_I_fn7, sm_I_fn8, sm_B_bool, sm_B_eql, sm_B_lss, sm_B_not, sm_B_and, sm_B_imp, sm_I_add_i64, sm_I_sub_i64, d111, d112, d33, d32, d32b, dL34, dL35, dL10, dd_int, dd_bool]
  rintro ⟨p0, p1, p2, p3, p4, p5, p6, p7, p8, p9, p10, p11, p12, p13, p14, p15⟩
  have hc11 := relH_c p11
  have cq0 := cnt_le (E.I ρ (.var 24)) (E.I ρ (.var 28))
  have cq1 := cnt_le (E.I ρ (.var 23)) (E.I ρ (.var 28))
  rcases relH_look p11 (E.I ρ (.var 28)) with ⟨hn, hh, hg⟩ | ⟨v, hn, h1, h2, h3, h4, h5, h6, h7, h8, h9⟩
  · first
      | (exfalso; simp only [hn] at *; simp_all; done)
      | (rw [hn]; simp; done)
      | exact hh (by omega) (by omega)
      | (simp only [hn, Option.isSome_none, Option.getD_none, U.toI] at *; omega)
      | (simp only [hn, Option.isSome_none, Option.getD_none, U.toI] at *; simp_all; done)
  · simp only [hn, Option.isSome_some, Option.getD_some] at *
    first
      | omega
      | (rw [h3]; simp; done)
      | exact (h6 (by omega)).2
      | exact (h7 (by omega)).2
      | exact (h6 (by omega)).1.symm
      | exact (h7 (by omega)).1.symm
      | (simp_all; done)
      | (simp_all; omega)
noncomputable def f40 : E := (.imp (.and (.cmp .eql (.var 30) (.fn 112 (.pr (.var 24) (.var 28)))) (.and (.cmp .eql (.var 29) (.fn 112 (.pr (.var 23) (.var 28)))) (.and (.fn 111 (.pr (.var 21) (.pr (.var 22) (.pr (.var 23) (.pr (.var 24) (.pr (.var 25) (.pr (.var 26) (.var 27)))))))) (.and (.cmp .lss (.var 28) (.var 25)) (.and (.fn 33 (.pr (.var 21) (.var 28))) (.and (.not (.cmp .eql (.fn 32 (.pr (.var 21) (.pr (.var 28) (.int 0)))) (.int (-1)))) (.and (.cmp .eql (.fn 32 (.pr (.var 21) (.pr (.var 28) (.int 0)))) (.int 0)) (.and (.not (.cmp .lss (.int 80) (.fn 9 (.pr (.var 2) (.int 4))))) (.and (.not (.cmp .lss (.fn 9 (.pr (.var 2) (.int 4))) (.var 3))) (.and (.not (.cmp .lss (.int 80) (.var 3))) (.and (.not (.cmp .lss (.var 3) (.int 0))) (.and (.cmp .lss (.var 3) (.fn 9 (.pr (.var 2) (.int 4)))) (.and (.not (.cmp .lss (.var 25) (.var 28))) (.and (.not (.cmp .lss (.var 28) (.int 0))) (.and (.not (.cmp .lss (.fn 6 (.pr (.var 3) (.int 1))) (.var 25))) (.and (.not (.cmp .lss (.var 25) (.int 0))) (.and (.not (.cmp .lss (.int 80) (.fn 9 (.pr (.var 2) (.int 4))))) (.and (.not (.cmp .lss (.fn 9 (.pr (.var 2) (.int 4))) (.var 3))) (.and (.not (.cmp .lss (.int 80) (.var 3))) (.not (.cmp .lss (.var 3) (.int 0)))))))))))))))))))))) (.cmp .eql (.var 23) (.var 28)))
theorem fact40 (ρ : Env) : E.B ρ f40 = true := by
  unfold f40
  simp only [sm_I_int, sm_I_fn6, sm_I_fn7, sm_I_fn8, sm_B_bool, sm_B_eql, sm_B_lss, sm_B_not, sm_B_and, sm_B_imp, sm_I_add_i64, sm_I_sub_i64, d111, d112, d33, d32, d32b, dL34, dL35, dL10, dd_int, dd_bool]
  rintro ⟨p0, p1, p2, p3, p4, p5, p6, p7, p8, p9, p10, p11, p12, p13, p14, p15, p16, p17, p18, p19⟩
  have hc2 := relH_c p2
  have cq0 := cnt_le (E.I ρ (.var 24)) (E.I ρ (.var 28))
  have cq1 := cnt_le (E.I ρ (.var 23)) (E.I ρ (.var 28))
  rcases relH_look p2 (E.I ρ (.var 28)) with ⟨hn, hh, hg⟩ | ⟨v, hn, h1, h2, h3, h4, h5, h6, h7, h8, h9⟩
  · first
      | (exfalso; simp only [hn] at *; simp_all; done)
      | (rw [hn]; simp; done)
      | exact hh (by omega) (by omega)
      | (simp only [hn, Option.isSome_none, Option.getD_none, U.toI] at *; omega)
      | (simp only [hn, Option.isSome_none, Option.getD_none, U.toI] at *; simp_all; done)
  · simp only [hn, Option.isSome_some, Option.getD_some] at *
    first
      | omega
      | (rw [h3]; simp; done)
      | exact (h6 (by omega)).2
      | exact (h7 (by omega)).2
      | exact (h6 (by omega)).1.symm
      | exact (h7 (by omega)).1.symm
      | (simp_all; done)
      | (simp_all; omega)
noncomputable def f41 : E := (.imp (.and (.cmp .lss (.var 28) (.var 25)) (.and (.fn 33 (.pr (.var 21) (.var 28))) (.and (.cmp .eql (.fn 32 (.pr (.var 21) (.pr (.var 28) (.int 0)))) (.int (-1))) (.and (.not (.cmp .lss (.int 80) (.fn 9 (.pr (.var 2) (.int 4))))) (.and (.not (.cmp .lss (.fn 9 (.pr (.var 2) (.int 4))) (.var 3))) (.and (.not (.cmp .lss (.int 80) (.var 3))) (.and (.not (.cmp .lss (.var 3) (.int 0))) (.and (.cmp .lss (.var 3) (.fn 9 (.pr (.var 2) (.int 4)))) (.and (.cmp .eql (.var 30) (.fn 112 (.pr (.var 24) (.var 28)))) (.and (.cmp .eql (.var 29) (.fn 112 (.pr (.var 23) (.var 28)))) (.and (.not (.cmp .lss (.var 25) (.var 28))) (.and (.not (.cmp .lss (.var 28) (.int 0))) (.and (.not (.cmp .lss (.fn 6 (.pr (.var 3) (.int 1))) (.var 25))) (.and (.not (.cmp .lss (.var 25) (.int 0))) (.and (.fn 111 (.pr (.var 21) (.pr (.var 22) (.pr (.var 23) (.pr (.var 24) (.pr (.var 25) (.pr (.var 26) (.var 27)))))))) (.and (.not (.cmp .lss (.int 80) (.fn 9 (.pr (.var 2) (.int 4))))) (.and (.not (.cmp .lss (.fn 9 (.pr (.var 2) (.int 4))) (.var 3))) (.and (.not (.cmp .lss (.int 80) (.var 3))) (.not (.cmp .lss (.var 3) (.int 0))))))))))))))))))))) (.cmp .eql (.var 29) (.fn 112 (.pr (.var 23) (.ar .add .i64 (.var 28) (.int 1))))))
theorem fact41 (ρ : Env) : E.B ρ f41 = true := by
  unfold f41
  simp only [sm_I_int, sm_I_fn6, sm_I_fn7, sm_I_fn8, sm_B_bool, sm_B_eql, sm_B_lss, sm_B_not, sm_B_and, sm_B_imp, sm_I_add_i64, sm_I_sub_i64, d111, d112, d33, d32, d32b, dL34, dL35, dL10, dd_int, dd_bool]
  rintro ⟨p0, p1, p2, p3, p4, p5, p6, p7, p8, p9, p10, p11, p12, p13, p14, p15, p16, p17, p18⟩
  have hc14 := relH_c p14
  have cq0 := cnt_le (E.I ρ (.var 24)) (E.I ρ (.var 28))
  have cq1 := cnt_le (E.I ρ (.var 23)) (E.I ρ (.var 28))
  obtain ⟨y0, e0, q0, h0⟩ := cs_i64 ((E.I ρ (.var 28)) + (1))
  have w0 := h0 (by omega) (by omega)
  simp only [e0] at *
  subst w0
  rcases relH_look p14 (E.I ρ (.var 28)) with ⟨hn, hh, hg⟩ | ⟨v, hn, h1, h2, h3, h4, h5, h6, h7, h8, h9⟩
  all_goals rw [cnt_step (by omega)]
  · first
      | (exfalso; simp only [hn] at *; simp_all; done)
      | (have hg2 := hg (by omega); rw [if_neg (by omega)]; omega)
  · simp only [hn, Option.isSome_some, Option.getD_some] at *
    first
      | (rw [if_neg (by omega)]; omega)
      | (rw [if_pos (by omega)]; omega)
      | (exfalso; simp_all; done)
noncomputable def f42 : E := (.imp (.and (.cmp .lss (.var 28) (.var 25)) (.and (.not (.fn 33 (.pr (.var 21) (.var 28)))) (.and (.not (.cmp .lss (.int 80) (.fn 9 (.pr (.var 2) (.int 4))))) (.and (.not (.cmp .lss (.fn 9 (.pr (.var 2) (.int 4))) (.var 3))) (.and (.not (.cmp .lss (.int 80) (.var 3))) (.and (.not (.cmp .lss (.var 3) (.int 0))) (.and (.cmp .lss (.var 3) (.fn 9 (.pr (.var 2) (.int 4)))) (.and (.cmp .eql (.var 30) (.fn 112 (.pr (.var 24) (.var 28)))) (.and (.cmp .eql (.var 29) (.fn 112 (.pr (.var 23) (.var 28)))) (.and (.not (.cmp .lss (.var 25) (.var 28))) (.and (.not (.cmp .lss (.var 28) (.int 0))) (.and (.not (.cmp .lss (.fn 6 (.pr (.var 3) (.int 1))) (.var 25))) (.and (.not (.cmp .lss (.var 25) (.int 0))) (.and (.fn 111 (.pr (.var 21) (.pr (.var 22) (.pr (.var 23) (.pr (.var 24) (.pr (.var 25) (.pr (.var 26) (.var 27)))))))) (.and (.not (.cmp .lss (.int 80) (.fn 9 (.pr (.var 2) (.int 4))))) (.and (.not (.cmp .lss (.fn 9 (.pr (.var 2) (.int 4))) (.var 3))) (.and (.not (.cmp .lss (.int 80) (.var 3))) (.not (.cmp .lss (.var 3) (.int 0)))))))))))))))))))) (.cmp .eql (.var 29) (.fn 112 (.pr (.var 23) (.ar .add .i64 (.var 28) (.int 1))))))
theorem fact42 (ρ : Env) : E.B ρ f42 = true := by
  unfold f42
  simp only [sm_I_int, sm_I_fn6, sm_I_fn7, sm_I_fn8, sm_B_bool, sm_B_eql, sm_B_lss, sm_B_not, sm_B_and, sm_B_imp, sm_I_add_i64, sm_I_sub_i64, d111, d112, d33, d32, d32b, dL34, dL35, dL10, dd_int, dd_bool]
  rintro ⟨p0, p1, p2, p3, p4, p5, p6, p7, p8, p9, p10, p11, p12, p13, p14, p15, p16, p17⟩
  have hc13 := relH_c p13
  have cq0 := cnt_le (E.I ρ (.var 24)) (E.I ρ (.var 28))
  have cq1 := cnt_le (E.I ρ (.var 23)) (E.I ρ (.var 28))
  obtain ⟨y0, e0, q0, h0⟩ := cs_i64 ((E.I ρ (.var 28)) + (1))
  have w0 := h0 (by omega) (by omega)
  simp only [e0] at *
  subst w0
  rcases relH_look p13 (E.I ρ (.var 28)) with ⟨hn, hh, hg⟩ | ⟨v, hn, h1, h2, h3, h4, h5, h6, h7, h8, h9⟩
  all_goals rw [cnt_step (by omega)]
  · first
      | (exfalso; simp only [hn] at *; simp_all; done)
      | (have hg2 := hg (by omega); rw [if_neg (by omega)]; omega)
  · simp only [hn, Option.isSome_some, Option.getD_some] at *
    first
      | (rw [if_neg (by omega)]; omega)
      | (rw [if_pos (by omega)]; omega)
      | (exfalso; simp_all; done)
noncomputable def f43 : E := (.imp (.and (.cmp .lss (.var 28) (.var 25)) (.and (.fn 33 (.pr (.var 21) (.var 28))) (.and (.not (.cmp .eql (.fn 32 (.pr (.var 21) (.pr (.var 28) (.int 0)))) (.int (-1)))) (.and (.not (.cmp .eql (.fn 32 (.pr (.var 21) (.pr (.var 28) (.int 0)))) (.int 0))) (.and (.not (.cmp .lss (.int 80) (.fn 9 (.pr (.var 2) (.int 4))))) (.and (.not (.cmp .lss (.fn 9 (.pr (.var 2) (.int 4))) (.var 3))) (.and (.not (.cmp .lss (.int 80) (.var 3))) (.and (.not (.cmp .lss (.var 3) (.int 0))) (.and (.cmp .lss (.var 3) (.fn 9 (.pr (.var 2) (.int 4)))) (.and (.cmp .eql (.var 30) (.fn 112 (.pr (.var 24) (.var 28)))) (.and (.cmp .eql (.var 29) (.fn 112 (.pr (.var 23) (.var 28)))) (.and (.not (.cmp .lss (.var 25) (.var 28))) (.and (.not (.cmp .lss (.var 28) (.int 0))) (.and (.not (.cmp .lss (.fn 6 (.pr (.var 3) (.int 1))) (.var 25))) (.and (.not (.cmp .lss (.var 25) (.int 0))) (.and (.fn 111 (.pr (.var 21) (.pr (.var 22) (.pr (.var 23) (.pr (.var 24) (.pr (.var 25) (.pr (.var 26) (.var 27)))))))) (.and (.not (.cmp .lss (.int 80) (.fn 9 (.pr (.var 2) (.int 4))))) (.and (.not (.cmp .lss (.fn 9 (.pr (.var 2) (.int 4))) (.var 3))) (.and (.not (.cmp .lss (.int 80) (.var 3))) (.not (.cmp .lss (.var 3) (.int 0)))))))))))))))))))))) (.not (.cmp .lss (.fn 32 (.pr (.var 21) (.pr (.var 28) (.int 0)))) (.int 0))))
theorem fact43 (ρ : Env) : E.B ρ f43 = true := by
  unfold f43
  simp only [sm_I_int, sm_I_fn6, sm_I_fn7, sm_I_fn8, sm_B_bool, sm_B_eql, sm_B_lss, sm_B_not, sm_B_and, sm_B_imp, sm_I_add_i64, sm_I_sub_i64, d111, d112, d33, d32, d32b, dL34, dL35, dL10, dd_int, dd_bool]
  rintro ⟨p0, p1, p2, p3, p4, p5, p6, p7, p8, p9, p10, p11, p12, p13, p14, p15, p16, p17, p18, p19⟩
  have hc15 := relH_c p15
  have cq0 := cnt_le (E.I ρ (.var 24)) (E.I ρ (.var 28))
  have cq1 := cnt_le (E.I ρ (.var 23)) (E.I ρ (.var 28))
  rcases relH_look p15 (E.I ρ (.var 28)) with ⟨hn, hh, hg⟩ | ⟨v, hn, h1, h2, h3, h4, h5, h6, h7, h8, h9⟩
  · first
      | (exfalso; simp only [hn] at *; simp_all; done)
      | (rw [hn]; simp; done)
      | exact hh (by omega) (by omega)
      | (simp only [hn, Option.isSome_none, Option.getD_none, U.toI] at *; omega)
      | (simp only [hn, Option.isSome_none, Option.getD_none, U.toI] at *; simp_all; done)
  · simp only [hn, Option.isSome_some, Option.getD_some] at *
    first
      | omega
      | (rw [h3]; simp; done)
      | exact (h6 (by omega)).2
      | exact (h7 (by omega)).2
      | exact (h6 (by omega)).1.symm
      | exact (h7 (by omega)).1.symm
      | (simp_all; done)
      | (simp_all; omega)
noncomputable def f44 : E := (.imp (.and (.cmp .lss (.var 28) (.var 25)) (.and (.fn 33 (.pr (.var 21) (.var 28))) (.and (.not (.cmp .eql (.fn 32 (.pr (.var 21) (.pr (.var 28) (.int 0)))) (.int (-1)))) (.and (.cmp .eql (.fn 32 (.pr (.var 21) (.pr (.var 28) (.int 0)))) (.int 0)) (.and (.not (.cmp .lss (.int 80) (.fn 9 (.pr (.var 2) (.int 4))))) (.and (.not (.cmp .lss (.fn 9 (.pr (.var 2) (.int 4))) (.var 3))) (.and (.not (.cmp .lss (.int 80) (.var 3))) (.and (.not (.cmp .lss (.var 3) (.int 0))) (.and (.cmp .lss (.var 3) (.fn 9 (.pr (.var 2) (.int 4)))) (.and (.cmp .eql (.var 30) (.fn 112 (.pr (.var 24) (.var 28)))) (.and (.cmp .eql (.var 29) (.fn 112 (.pr (.var 23) (.var 28)))) (.and (.not (.cmp .lss (.var 25) (.var 28))) (.and (.not (.cmp .lss (.var 28) (.int 0))) (.and (.not (.cmp .lss (.fn 6 (.pr (.var 3) (.int 1))) (.var 25))) (.and (.not (.cmp .lss (.var 25) (.int 0))) (.and (.fn 111 (.pr (.var 21) (.pr (.var 22) (.pr (.var 23) (.pr (.var 24) (.pr (.var 25) (.pr (.var 26) (.var 27)))))))) (.and (.not (.cmp .lss (.int 80) (.fn 9 (.pr (.var 2) (.int 4))))) (.and (.not (.cmp .lss (.fn 9 (.pr (.var 2) (.int 4))) (.var 3))) (.and (.not (.cmp .lss (.int 80) (.var 3))) (.not (.cmp .lss (.var 3) (.int 0)))))))))))))))))))))) (.cmp .eql (.ar .add .i64 (.var 29) (.int 1)) (.fn 112 (.pr (.var 23) (.ar .add .i64 (.var 28) (.int 1))))))
theorem fact44 (ρ : Env) : E.B ρ f44 = true := by
  unfold f44
  simp only [sm_I_int, sm_I_fn6, sm_I_fn7, sm_I_fn8, sm_B_bool, sm_B_eql, sm_B_lss, sm_B_not, sm_B_and, sm_B_imp, sm_I_add_i64, sm_I_sub_i64, d111, d112, d33, d32, d32b, dL34, dL35, dL10, dd_int, dd_bool]
  rintro ⟨p0, p1, p2, p3, p4, p5, p6, p7, p8, p9, p10, p11, p12, p13, p14, p15, p16, p17, p18, p19⟩
  have hc15 := relH_c p15
  have cq0 := cnt_le (E.I ρ (.var 24)) (E.I ρ (.var 28))
  have cq1 := cnt_le (E.I ρ (.var 23)) (E.I ρ (.var 28))
  obtain ⟨y0, e0, q0, h0⟩ := cs_i64 ((E.I ρ (.var 29)) + (1))
  have w0 := h0 (by omega) (by omega)
  simp only [e0] at *
  subst w0
  obtain ⟨y1, e1, q1, h1⟩ := cs_i64 ((E.I ρ (.var 28)) + (1))
  have w1 := h1 (by omega) (by omega)
  simp only [e1] at *
  subst w1
  rcases relH_look p15 (E.I ρ (.var 28)) with ⟨hn, hh, hg⟩ | ⟨v, hn, h1, h2, h3, h4, h5, h6, h7, h8, h9⟩
  all_goals rw [cnt_step (by omega)]
  · first
      | (exfalso; simp only [hn] at *; simp_all; done)
      | (have hg2 := hg (by omega); rw [if_neg (by omega)]; omega)
  · simp only [hn, Option.isSome_some, Option.getD_some] at *
    first
      | (rw [if_neg (by omega)]; omega)
      | (rw [if_pos (by omega)]; omega)
      | (exfalso; simp_all; done)
noncomputable def f45 : E := (.imp (.and (.cmp .lss (.var 28) (.var 25)) (.and (.fn 33 (.pr (.var 21) (.var 28))) (.and (.cmp .eql (.fn 32 (.pr (.var 21) (.pr (.var 28) (.int 0)))) (.int (-1))) (.and (.not (.cmp .lss (.int 80) (.fn 9 (.pr (.var 2) (.int 4))))) (.and (.not (.cmp .lss (.fn 9 (.pr (.var 2) (.int 4))) (.var 3))) (.and (.not (.cmp .lss (.int 80) (.var 3))) (.and (.not (.cmp .lss (.var 3) (.int 0))) (.and (.cmp .lss (.var 3) (.fn 9 (.pr (.var 2) (.int 4)))) (.and (.cmp .eql (.var 30) (.fn 112 (.pr (.var 24) (.var 28)))) (.and (.cmp .eql (.var 29) (.fn 112 (.pr (.var 23) (.var 28)))) (.and (.not (.cmp .lss (.var 25) (.var 28))) (.and (.not (.cmp .lss (.var 28) (.int 0))) (.and (.not (.cmp .lss (.fn 6 (.pr (.var 3) (.int 1))) (.var 25))) (.and (.not (.cmp .lss (.var 25) (.int 0))) (.and (.fn 111 (.pr (.var 21) (.pr (.var 22) (.pr (.var 23) (.pr (.var 24) (.pr (.var 25) (.pr (.var 26) (.var 27)))))))) (.and (.not (.cmp .lss (.int 80) (.fn 9 (.pr (.var 2) (.int 4))))) (.and (.not (.cmp .lss (.fn 9 (.pr (.var 2) (.int 4))) (.var 3))) (.and (.not (.cmp .lss (.int 80) (.var 3))) (.not (.cmp .lss (.var 3) (.int 0))))))))))))))))))))) (.cmp .eql (.var 30) (.fn 112 (.pr (.var 24) (.ar .add .i64 (.var 28) (.int 1))))))
theorem fact45 (ρ : Env) : E.B ρ f45 = true := by
  unfold f45
  simp only [sm_I_int, sm_I_fn6, sm_I_fn7, sm_I_fn8, sm_B_bool, sm_B_eql, sm_B_lss, sm_B_not, sm_B_and, sm_B_imp, sm_I_add_i64, sm_I_sub_i64, d111, d112, d33, d32, d32b, dL34, dL35, dL10, dd_int, dd_bool]
  rintro ⟨p0, p1, p2, p3, p4, p5, p6, p7, p8, p9, p10, p11, p12, p13, p14, p15, p16, p17, p18⟩
  have hc14 := relH_c p14
  have cq0 := cnt_le (E.I ρ (.var 24)) (E.I ρ (.var 28))
  have cq1 := cnt_le (E.I ρ (.var 23)) (E.I ρ (.var 28))
  obtain ⟨y0, e0, q0, h0⟩ := cs_i64 ((E.I ρ (.var 28)) + (1))
  have w0 := h0 (by omega) (by omega)
  simp only [e0] at *
  subst w0
  rcases relH_look p14 (E.I ρ (.var 28)) with ⟨hn, hh, hg⟩ | ⟨v, hn, h1, h2, h3, h4, h5, h6, h7, h8, h9⟩
  all_goals rw [cnt_step (by omega)]
  · first
      | (exfalso; simp only [hn] at *; simp_all; done)
      | (have hg2 := hg (by omega); rw [if_neg (by omega)]; omega)
  · simp only [hn, Option.isSome_some, Option.getD_some] at *
    first
      | (rw [if_neg (by omega)]; omega)
      | (rw [if_pos (by omega)]; omega)
      | (exfalso; simp_all; done)
noncomputable def f46 : E := (.imp (.and (.cmp .lss (.var 28) (.var 25)) (.and (.not (.fn 33 (.pr (.var 21) (.var 28)))) (.and (.not (.cmp .lss (.int 80) (.fn 9 (.pr (.var 2) (.int 4))))) (.and (.not (.cmp .lss (.fn 9 (.pr (.var 2) (.int 4))) (.var 3))) (.and (.not (.cmp .lss (.int 80) (.var 3))) (.and (.not (.cmp .lss (.var 3) (.int 0))) (.and (.cmp .lss (.var 3) (.fn 9 (.pr (.var 2) (.int 4)))) (.and (.cmp .eql (.var 30) (.fn 112 (.pr (.var 24) (.var 28)))) (.and (.cmp .eql (.var 29) (.fn 112 (.pr (.var 23) (.var 28)))) (.and (.not (.cmp .lss (.var 25) (.var 28))) (.and (.not (.cmp .lss (.var 28) (.int 0))) (.and (.not (.cmp .lss (.fn 6 (.pr (.var 3) (.int 1))) (.var 25))) (.and (.not (.cmp .lss (.var 25) (.int 0))) (.and (.fn 111 (.pr (.var 21) (.pr (.var 22) (.pr (.var 23) (.pr (.var 24) (.pr (.var 25) (.pr (.var 26) (.var 27)))))))) (.and (.not (.cmp .lss (.int 80) (.fn 9 (.pr (.var 2) (.int 4))))) (.and (.not (.cmp .lss (.fn 9 (.pr (.var 2) (.int 4))) (.var 3))) (.and (.not (.cmp .lss (.int 80) (.var 3))) (.not (.cmp .lss (.var 3) (.int 0)))))))))))))))))))) (.cmp .eql (.var 30) (.fn 112 (.pr (.var 24) (.ar .add .i64 (.var 28) (.int 1))))))
theorem fact46 (ρ : Env) : E.B ρ f46 = true := by
  unfold f46
  simp only [sm_I_int, sm_I_fn6, sm_I_fn7, sm_I_fn8, sm_B_bool, sm_B_eql, sm_B_lss, sm_B_not, sm_B_and, sm_B_imp, sm_I_add_i64, sm_I_sub_i64, d111, d112, d33, d32, d32b, dL34, dL35, dL10, dd_int, dd_bool]
  rintro ⟨p0, p1, p2, p3, p4, p5, p6, p7, p8, p9, p10, p11, p12, p13, p14, p15, p16, p17⟩
  have hc13 := relH_c p13
  have cq0 := cnt_le (E.I ρ (.var 24)) (E.I ρ (.var 28))
  have cq1 := cnt_le (E.I ρ (.var 23)) (E.I ρ (.var 28))
  obtain ⟨y0, e0, q0, h0⟩ := cs_i64 ((E.I ρ (.var 28)) + (1))
  have w0 := h0 (by omega) (by omega)
  simp only [e0] at *
  subst w0
  rcases relH_look p13 (E.I ρ (.var 28)) with ⟨hn, hh, hg⟩ | ⟨v, hn, h1, h2, h3, h4, h5, h6, h7, h8, h9⟩
  all_goals rw [cnt_step (by omega)]
  · first
      | (exfalso; simp only [hn] at *; simp_all; done)
      | (have hg2 := hg (by omega); rw [if_neg (by omega)]; omega)
  · simp only [hn, Option.isSome_some, Option.getD_some] at *
    first
      | (rw [if_neg (by omega)]; omega)
      | (rw [if_pos (by omega)]; omega)
      | (exfalso; simp_all; done)
noncomputable def f47 : E := (.imp (.and (.not (.cmp .lss (.int 80) (.fn 9 (.pr (.var 2) (.int 4))))) (.and (.not (.cmp .lss (.fn 9 (.pr (.var 2) (.int 4))) (.var 3))) (.and (.not (.cmp .lss (.int 80) (.var 3))) (.and (.not (.cmp .lss (.var 3) (.int 0))) (.and (.cmp .lss (.var 3) (.fn 9 (.pr (.var 2) (.int 4)))) (.and (.not (.cmp .lss (.var 25) (.var 28))) (.and (.not (.cmp .lss (.var 28) (.int 0))) (.and (.not (.cmp .lss (.fn 6 (.pr (.var 3) (.int 1))) (.var 25))) (.and (.not (.cmp .lss (.var 25) (.int 0))) (.and (.not (.cmp .lss (.int 80) (.fn 9 (.pr (.var 2) (.int 4))))) (.and (.not (.cmp .lss (.fn 9 (.pr (.var 2) (.int 4))) (.var 3))) (.and (.not (.cmp .lss (.int 80) (.var 3))) (.not (.cmp .lss (.var 3) (.int 0))))))))))))))) (.not (.cmp .lss (.ar .add .i64 (.var 3) (.int 1)) (.int 0))))
theorem fact47 (ρ : Env) : E.B ρ f47 = true := by
  unfold f47
  simp only [sm_I_int, sm_I_mn, sm_I_mx, sm_I_add_u64, sm_I_sub_u64, sm_I_add_i64, sm_I_sub_i64, sm_I_mul_i64, sm_I_fn6, sm_I_fn7, sm_I_fn8, sm_B_bool, sm_B_eql, sm_B_lss, sm_B_not, sm_B_and, sm_B_imp, sm_B_iff]
  rintro ⟨p0, p1, p2, p3, p4, p5, p6, p7, p8, p9, p10, p11, p12⟩
  try generalize E.I ρ (.fn 9 (.pr (.var 2) (.int 4))) = x0 at *
  try generalize E.I ρ (.var 3) = x1 at *
  try generalize E.I ρ (.var 25) = x2 at *
  try generalize E.I ρ (.var 28) = x3 at *
  obtain ⟨y0, e0, q0, h0⟩ := cs_i64 (x1 + 1)
  try simp only [e0] at *
  omega
noncomputable def f48 : E := (.imp (.and (.not (.cmp .lss (.int 80) (.fn 9 (.pr (.var 2) (.int 4))))) (.and (.not (.cmp .lss (.fn 9 (.pr (.var 2) (.int 4))) (.var 3))) (.and (.not (.cmp .lss (.int 80) (.var 3))) (.and (.not (.cmp .lss (.var 3) (.int 0))) (.and (.cmp .lss (.var 3) (.fn 9 (.pr (.var 2) (.int 4)))) (.and (.cmp .eql (.var 30) (.fn 112 (.pr (.var 24) (.var 28)))) (.and (.cmp .eql (.var 29) (.fn 112 (.pr (.var 23) (.var 28)))) (.and (.not (.cmp .lss (.var 25) (.var 28))) (.and (.not (.cmp .lss (.var 28) (.int 0))) (.and (.not (.cmp .lss (.fn 6 (.pr (.var 3) (.int 1))) (.var 25))) (.and (.not (.cmp .lss (.var 25) (.int 0))) (.and (.fn 111 (.pr (.var 21) (.pr (.var 22) (.pr (.var 23) (.pr (.var 24) (.pr (.var 25) (.pr (.var 26) (.var 27)))))))) (.and (.not (.cmp .lss (.int 80) (.fn 9 (.pr (.var 2) (.int 4))))) (.and (.not (.cmp .lss (.fn 9 (.pr (.var 2) (.int 4))) (.var 3))) (.and (.not (.cmp .lss (.int 80) (.var 3))) (.not (.cmp .lss (.var 3) (.int 0)))))))))))))))))) (.not (.cmp .lss (.int 1) (.var 29))))
theorem fact48 (ρ : Env) : E.B ρ f48 = true := by
  unfold f48
  simp only [sm_I_int, sm_I_fn6, sm_I_fn7, sm_I_fn8, sm_B_bool, sm_B_eql, sm_B_lss, sm_B_not, sm_B_and, sm_B_imp, sm_I_add_i64, sm_I_sub_i64, d111, d112, d33, d32, d32b, dL34, dL35, dL10, dd_int, dd_bool]
  rintro ⟨p0, p1, p2, p3, p4, p5, p6, p7, p8, p9, p10, p11, p12, p13, p14, p15⟩
  have hc11 := relH_c p11
  have cq0 := cnt_le (E.I ρ (.var 24)) (E.I ρ (.var 28))
  have cq1 := cnt_le (E.I ρ (.var 23)) (E.I ρ (.var 28))
  have cl := cnt_le
  have cz := cnt_zero
  have cl0 := cnt_le (E.I ρ (.var 24)) (E.I ρ (.var 28))
  have cl1 := cnt_le (E.I ρ (.var 23)) (E.I ρ (.var 28))
  first
    | omega
    | (simp_all; done)
    | (simp_all; omega)
noncomputable def f49 : E := (.imp (.and (.cmp .lss (.var 28) (.var 25)) (.and (.fn 33 (.pr (.var 21) (.var 28))) (.and (.not (.cmp .eql (.fn 32 (.pr (.var 21) (.pr (.var 28) (.int 0)))) (.int (-1)))) (.and (.not (.cmp .eql (.fn 32 (.pr (.var 21) (.pr (.var 28) (.int 0)))) (.int 0))) (.and (.not (.cmp .lss (.int 80) (.fn 9 (.pr (.var 2) (.int 4))))) (.and (.not (.cmp .lss (.fn 9 (.pr (.var 2) (.int 4))) (.var 3))) (.and (.not (.cmp .lss (.int 80) (.var 3))) (.and (.not (.cmp .lss (.var 3) (.int 0))) (.and (.cmp .lss (.var 3) (.fn 9 (.pr (.var 2) (.int 4)))) (.and (.cmp .eql (.var 30) (.fn 112 (.pr (.var 24) (.var 28)))) (.and (.cmp .eql (.var 29) (.fn 112 (.pr (.var 23) (.var 28)))) (.and (.not (.cmp .lss (.var 25) (.var 28))) (.and (.not (.cmp .lss (.var 28) (.int 0))) (.and (.not (.cmp .lss (.fn 6 (.pr (.var 3) (.int 1))) (.var 25))) (.and (.not (.cmp .lss (.var 25) (.int 0))) (.and (.fn 111 (.pr (.var 21) (.pr (.var 22) (.pr (.var 23) (.pr (.var 24) (.pr (.var 25) (.pr (.var 26) (.var 27)))))))) (.and (.not (.cmp .lss (.int 80) (.fn 9 (.pr (.var 2) (.int 4))))) (.and (.not (.cmp .lss (.fn 9 (.pr (.var 2) (.int 4))) (.var 3))) (.and (.not (.cmp .lss (.int 80) (.var 3))) (.not (.cmp .lss (.var 3) (.int 0)))))))))))))))))))))) (.cmp .lss (.fn 32 (.pr (.var 21) (.pr (.var 28) (.int 0)))) (.int 2)))
theorem fact49 (ρ : Env) : E.B ρ f49 = true := by
  unfold f49
  simp only [sm_I_int, sm_I_fn6, sm_I_fn7, sm_I_fn8, sm_B_bool, sm_B_eql, sm_B_lss, sm_B_not, sm_B_and, sm_B_imp, sm_I_add_i64, sm_I_sub_i64, d111, d112, d33, d32, d32b, dL34, dL35, dL10, dd_int, dd_bool]
  rintro ⟨p0, p1, p2, p3, p4, p5, p6, p7, p8, p9, p10, p11, p12, p13, p14, p15, p16, p17, p18, p19⟩
  have hc15 := relH_c p15
  have cq0 := cnt_le (E.I ρ (.var 24)) (E.I ρ (.var 28))
  have cq1 := cnt_le (E.I ρ (.var 23)) (E.I ρ (.var 28))
  rcases relH_look p15 (E.I ρ (.var 28)) with ⟨hn, hh, hg⟩ | ⟨v, hn, h1, h2, h3, h4, h5, h6, h7, h8, h9⟩
  · first
      | (exfalso; simp only [hn] at *; simp_all; done)
      | (rw [hn]; simp; done)
      | exact hh (by omega) (by omega)
      | (simp only [hn, Option.isSome_none, Option.getD_none, U.toI] at *; omega)
      | (simp only [hn, Option.isSome_none, Option.getD_none, U.toI] at *; simp_all; done)
  · simp only [hn, Option.isSome_some, Option.getD_some] at *
    first
      | omega
      | (rw [h3]; simp; done)
      | exact (h6 (by omega)).2
      | exact (h7 (by omega)).2
      | exact (h6 (by omega)).1.symm
      | exact (h7 (by omega)).1.symm
      | (simp_all; done)
      | (simp_all; omega)
noncomputable def f50 : E := (.imp (.and (.cmp .lss (.var 28) (.var 25)) (.and (.fn 33 (.pr (.var 21) (.var 28))) (.and (.not (.cmp .eql (.fn 32 (.pr (.var 21) (.pr (.var 28) (.int 0)))) (.int (-1)))) (.and (.cmp .eql (.fn 32 (.pr (.var 21) (.pr (.var 28) (.int 0)))) (.int 0)) (.and (.not (.cmp .lss (.int 80) (.fn 9 (.pr (.var 2) (.int 4))))) (.and (.not (.cmp .lss (.fn 9 (.pr (.var 2) (.int 4))) (.var 3))) (.and (.not (.cmp .lss (.int 80) (.var 3))) (.and (.not (.cmp .lss (.var 3) (.int 0))) (.and (.cmp .lss (.var 3) (.fn 9 (.pr (.var 2) (.int 4)))) (.and (.cmp .eql (.var 30) (.fn 112 (.pr (.var 24) (.var 28)))) (.and (.cmp .eql (.var 29) (.fn 112 (.pr (.var 23) (.var 28)))) (.and (.not (.cmp .lss (.var 25) (.var 28))) (.and (.not (.cmp .lss (.var 28) (.int 0))) (.and (.not (.cmp .lss (.fn 6 (.pr (.var 3) (.int 1))) (.var 25))) (.and (.not (.cmp .lss (.var 25) (.int 0))) (.and (.fn 111 (.pr (.var 21) (.pr (.var 22) (.pr (.var 23) (.pr (.var 24) (.pr (.var 25) (.pr (.var 26) (.var 27)))))))) (.and (.not (.cmp .lss (.int 80) (.fn 9 (.pr (.var 2) (.int 4))))) (.and (.not (.cmp .lss (.fn 9 (.pr (.var 2) (.int 4))) (.var 3))) (.and (.not (.cmp .lss (.int 80) (.var 3))) (.not (.cmp .lss (.var 3) (.int 0)))))))))))))))))))))) (.cmp .eql (.var 30) (.fn 112 (.pr (.var 24) (.ar .add .i64 (.var 28) (.int 1))))))
theorem fact50 (ρ : Env) : E.B ρ f50 = true := by
  unfold f50
  simp only [sm_I_int, sm_I_fn6, sm_I_fn7, sm_I_fn8, sm_B_bool, sm_B_eql, sm_B_lss, sm_B_not, sm_B_and, sm_B_imp, sm_I_add_i64, sm_I_sub_i64, d111, d112, d33, d32, d32b, dL34, dL35, dL10, dd_int, dd_bool]
  rintro ⟨p0, p1, p2, p3, p4, p5, p6, p7, p8, p9, p10, p11, p12, p13, p14, p15, p16, p17, p18, p19⟩
  have hc15 := relH_c p15
  have cq0 := cnt_le (E.I ρ (.var 24)) (E.I ρ (.var 28))
  have cq1 := cnt_le (E.I ρ (.var 23)) (E.I ρ (.var 28))
  obtain ⟨y0, e0, q0, h0⟩ := cs_i64 ((E.I ρ (.var 28)) + (1))
  have w0 := h0 (by omega) (by omega)
  simp only [e0] at *
  subst w0
  rcases relH_look p15 (E.I ρ (.var 28)) with ⟨hn, hh, hg⟩ | ⟨v, hn, h1, h2, h3, h4, h5, h6, h7, h8, h9⟩
  all_goals rw [cnt_step (by omega)]
  · first
      | (exfalso; simp only [hn] at *; simp_all; done)
      | (have hg2 := hg (by omega); rw [if_neg (by omega)]; omega)
  · simp only [hn, Option.isSome_some, Option.getD_some] at *
    first
      | (rw [if_neg (by omega)]; omega)
      | (rw [if_pos (by omega)]; omega)
      | (exfalso; simp_all; done)
noncomputable def f51 : E := (.imp (.and (.not (.cmp .lss (.int 80) (.fn 9 (.pr (.var 2) (.int 4))))) (.and (.not (.cmp .lss (.fn 9 (.pr (.var 2) (.int 4))) (.var 3))) (.and (.not (.cmp .lss (.int 80) (.var 3))) (.and (.not (.cmp .lss (.var 3) (.int 0))) (.and (.cmp .lss (.var 3) (.fn 9 (.pr (.var 2) (.int 4)))) (.and (.not (.cmp .lss (.var 25) (.var 28))) (.and (.not (.cmp .lss (.var 28) (.int 0))) (.and (.not (.cmp .lss (.fn 6 (.pr (.var 3) (.int 1))) (.var 25))) (.and (.not (.cmp .lss (.var 25) (.int 0))) (.and (.not (.cmp .lss (.int 80) (.fn 9 (.pr (.var 2) (.int 4))))) (.and (.not (.cmp .lss (.fn 9 (.pr (.var 2) (.int 4))) (.var 3))) (.and (.not (.cmp .lss (.int 80) (.var 3))) (.not (.cmp .lss (.var 3) (.int 0))))))))))))))) (.cmp .lss (.fn 7 (.pr (.var 25) (.ar .add .i64 (.var 28) (.int 1)))) (.fn 7 (.pr (.var 25) (.var 28)))))
theorem fact51 (ρ : Env) : E.B ρ f51 = true := by
  unfold f51
  simp only [sm_I_int, sm_I_mn, sm_I_mx, sm_I_add_u64, sm_I_sub_u64, sm_I_add_i64, sm_I_sub_i64, sm_I_mul_i64, sm_I_fn6, sm_I_fn7, sm_I_fn8, sm_B_bool, sm_B_eql, sm_B_lss, sm_B_not, sm_B_and, sm_B_imp, sm_B_iff]
  rintro ⟨p0, p1, p2, p3, p4, p5, p6, p7, p8, p9, p10, p11, p12⟩
  try generalize E.I ρ (.fn 9 (.pr (.var 2) (.int 4))) = x0 at *
  try generalize E.I ρ (.var 3) = x1 at *
  try generalize E.I ρ (.var 25) = x2 at *
  try generalize E.I ρ (.var 28) = x3 at *
  obtain ⟨y0, e0, q0, h0⟩ := cs_i64 (x3 + 1)
  try simp only [e0] at *
  omega
noncomputable def f52 : E := (.imp (.and (.not (.cmp .lss (.int 80) (.fn 9 (.pr (.var 2) (.int 4))))) (.and (.not (.cmp .lss (.fn 9 (.pr (.var 2) (.int 4))) (.var 3))) (.and (.not (.cmp .lss (.int 80) (.var 3))) (.and (.not (.cmp .lss (.var 3) (.int 0))) (.and (.cmp .lss (.var 3) (.fn 9 (.pr (.var 2) (.int 4)))) (.and (.not (.cmp .lss (.var 25) (.var 28))) (.and (.not (.cmp .lss (.var 28) (.int 0))) (.and (.not (.cmp .lss (.fn 6 (.pr (.var 3) (.int 1))) (.var 25))) (.and (.not (.cmp .lss (.var 25) (.int 0))) (.and (.not (.cmp .lss (.int 80) (.fn 9 (.pr (.var 2) (.int 4))))) (.and (.not (.cmp .lss (.fn 9 (.pr (.var 2) (.int 4))) (.var 3))) (.and (.not (.cmp .lss (.int 80) (.var 3))) (.not (.cmp .lss (.var 3) (.int 0))))))))))))))) (.not (.cmp .lss (.int 80) (.ar .add .i64 (.var 3) (.int 1)))))
theorem fact52 (ρ : Env) : E.B ρ f52 = true := by
  unfold f52
  simp only [sm_I_int, sm_I_mn, sm_I_mx, sm_I_add_u64, sm_I_sub_u64, sm_I_add_i64, sm_I_sub_i64, sm_I_mul_i64, sm_I_fn6, sm_I_fn7, sm_I_fn8, sm_B_bool, sm_B_eql, sm_B_lss, sm_B_not, sm_B_and, sm_B_imp, sm_B_iff]
  rintro ⟨p0, p1, p2, p3, p4, p5, p6, p7, p8, p9, p10, p11, p12⟩
  try generalize E.I ρ (.fn 9 (.pr (.var 2) (.int 4))) = x0 at *
  try generalize E.I ρ (.var 3) = x1 at *
  try generalize E.I ρ (.var 25) = x2 at *
  try generalize E.I ρ (.var 28) = x3 at *
  obtain ⟨y0, e0, q0, h0⟩ := cs_i64 (x1 + 1)
  try simp only [e0] at *
  omega
noncomputable def f53 : E := (.imp (.and (.not (.cmp .lss (.int 80) (.fn 9 (.pr (.var 2) (.int 4))))) (.and (.not (.cmp .lss (.fn 9 (.pr (.var 2) (.int 4))) (.var 3))) (.and (.not (.cmp .lss (.int 80) (.var 3))) (.and (.not (.cmp .lss (.var 3) (.int 0))) (.and (.cmp .lss (.var 3) (.fn 9 (.pr (.var 2) (.int 4)))) (.and (.not (.cmp .lss (.int 80) (.fn 9 (.pr (.var 2) (.int 4))))) (.and (.not (.cmp .lss (.fn 9 (.pr (.var 2) (.int 4))) (.var 3))) (.and (.not (.cmp .lss (.int 80) (.var 3))) (.and (.not (.cmp .lss (.var 3) (.int 0))) (.and (.not (.cmp .lss (.var 3) (.var 8))) (.not (.cmp .lss (.var 8) (.int 0))))))))))))) (.not (.cmp .lss (.fn 7 (.pr (.fn 9 (.pr (.var 2) (.int 4))) (.ar .add .i64 (.var 3) (.int 1)))) (.int 0))))
theorem fact53 (ρ : Env) : E.B ρ f53 = true := by
  unfold f53
  simp only [sm_I_int, sm_I_mn, sm_I_mx, sm_I_add_u64, sm_I_sub_u64, sm_I_add_i64, sm_I_sub_i64, sm_I_mul_i64, sm_I_fn6, sm_I_fn7, sm_I_fn8, sm_B_bool, sm_B_eql, sm_B_lss, sm_B_not, sm_B_and, sm_B_imp, sm_B_iff]
  rintro ⟨p0, p1, p2, p3, p4, p5, p6, p7, p8, p9, p10⟩
  try generalize E.I ρ (.fn 9 (.pr (.var 2) (.int 4))) = x0 at *
  try generalize E.I ρ (.var 3) = x1 at *
  try generalize E.I ρ (.var 8) = x2 at *
  obtain ⟨y0, e0, q0, h0⟩ := cs_i64 (x1 + 1)
  try simp only [e0] at *
  omega
noncomputable def f54 : E := (.imp (.and (.cmp .eql (.var 30) (.fn 112 (.pr (.var 24) (.var 28)))) (.and (.cmp .eql (.var 29) (.fn 112 (.pr (.var 23) (.var 28)))) (.and (.fn 111 (.pr (.var 21) (.pr (.var 22) (.pr (.var 23) (.pr (.var 24) (.pr (.var 25) (.pr (.var 26) (.var 27)))))))) (.and (.cmp .lss (.var 28) (.var 25)) (.and (.fn 33 (.pr (.var 21) (.var 28))) (.and (.not (.cmp .eql (.fn 32 (.pr (.var 21) (.pr (.var 28) (.int 0)))) (.int (-1)))) (.and (.not (.cmp .eql (.fn 32 (.pr (.var 21) (.pr (.var 28) (.int 0)))) (.int 0))) (.and (.not (.cmp .lss (.int 80) (.fn 9 (.pr (.var 2) (.int 4))))) (.and (.not (.cmp .lss (.fn 9 (.pr (.var 2) (.int 4))) (.var 3))) (.and (.not (.cmp .lss (.int 80) (.var 3))) (.and (.not (.cmp .lss (.var 3) (.int 0))) (.and (.cmp .lss (.var 3) (.fn 9 (.pr (.var 2) (.int 4)))) (.and (.not (.cmp .lss (.var 25) (.var 28))) (.and (.not (.cmp .lss (.var 28) (.int 0))) (.and (.not (.cmp .lss (.fn 6 (.pr (.var 3) (.int 1))) (.var 25))) (.and (.not (.cmp .lss (.var 25) (.int 0))) (.and (.not (.cmp .lss (.int 80) (.fn 9 (.pr (.var 2) (.int 4))))) (.and (.not (.cmp .lss (.fn 9 (.pr (.var 2) (.int 4))) (.var 3))) (.and (.not (.cmp .lss (.int 80) (.var 3))) (.not (.cmp .lss (.var 3) (.int 0)))))))))))))))))))))) (.cmp .eql (.var 24) (.var 28)))
theorem fact54 (ρ : Env) : E.B ρ f54 = true := by
  unfold f54
  simp only [sm_I_int, sm_I_fn6, sm_I_fn7, sm_I_fn8, sm_B_bool, sm_B_eql, sm_B_lss, sm_B_not, sm_B_and, sm_B_imp, sm_I_add_i64, sm_I_sub_i64, d111, d112, d33, d32, d32b, dL34, dL35, dL10, dd_int, dd_bool]
  rintro ⟨p0, p1, p2, p3, p4, p5, p6, p7, p8, p9, p10, p11, p12, p13, p14, p15, p16, p17, p18, p19⟩
  have hc2 := relH_c p2
  have cq0 := cnt_le (E.I ρ (.var 24)) (E.I ρ (.var 28))
  have cq1 := cnt_le (E.I ρ (.var 23)) (E.I ρ (.var 28))
  rcases relH_look p2 (E.I ρ (.var 28)) with ⟨hn, hh, hg⟩ | ⟨v, hn, h1, h2, h3, h4, h5, h6, h7, h8, h9⟩
  · first
      | (exfalso; simp only [hn] at *; simp_all; done)
      | (rw [hn]; simp; done)
      | exact hh (by omega) (by omega)
      | (simp only [hn, Option.isSome_none, Option.getD_none, U.toI] at *; omega)
      | (simp only [hn, Option.isSome_none, Option.getD_none, U.toI] at *; simp_all; done)
  · simp only [hn, Option.isSome_some, Option.getD_some] at *
    first
      | omega
      | (rw [h3]; simp; done)
      | exact (h6 (by omega)).2
      | exact (h7 (by omega)).2
      | exact (h6 (by omega)).1.symm
      | exact (h7 (by omega)).1.symm
      | (simp_all; done)
      | (simp_all; omega)
noncomputable def f55 : E := (.imp (.and (.cmp .lss (.var 28) (.var 25)) (.and (.not (.cmp .lss (.int 80) (.fn 9 (.pr (.var 2) (.int 4))))) (.and (.not (.cmp .lss (.fn 9 (.pr (.var 2) (.int 4))) (.var 3))) (.and (.not (.cmp .lss (.int 80) (.var 3))) (.and (.not (.cmp .lss (.var 3) (.int 0))) (.and (.cmp .lss (.var 3) (.fn 9 (.pr (.var 2) (.int 4)))) (.and (.not (.cmp .lss (.var 25) (.var 28))) (.and (.not (.cmp .lss (.var 28) (.int 0))) (.and (.not (.cmp .lss (.fn 6 (.pr (.var 3) (.int 1))) (.var 25))) (.and (.not (.cmp .lss (.var 25) (.int 0))) (.and (.not (.cmp .lss (.int 80) (.fn 9 (.pr (.var 2) (.int 4))))) (.and (.not (.cmp .lss (.fn 9 (.pr (.var 2) (.int 4))) (.var 3))) (.and (.not (.cmp .lss (.int 80) (.var 3))) (.not (.cmp .lss (.var 3) (.int 0)))))))))))))))) (.not (.cmp .lss (.fn 7 (.pr (.var 25) (.ar .add .i64 (.var 28) (.int 1)))) (.int 0))))
theorem fact55 (ρ : Env) : E.B ρ f55 = true := by
  unfold f55
  simp only [sm_I_int, sm_I_mn, sm_I_mx, sm_I_add_u64, sm_I_sub_u64, sm_I_add_i64, sm_I_sub_i64, sm_I_mul_i64, sm_I_fn6, sm_I_fn7, sm_I_fn8, sm_B_bool, sm_B_eql, sm_B_lss, sm_B_not, sm_B_and, sm_B_imp, sm_B_iff]
  rintro ⟨p0, p1, p2, p3, p4, p5, p6, p7, p8, p9, p10, p11, p12, p13⟩
  try generalize E.I ρ (.var 28) = x0 at *
  try generalize E.I ρ (.var 25) = x1 at *
  try generalize E.I ρ (.fn 9 (.pr (.var 2) (.int 4))) = x2 at *
  try generalize E.I ρ (.var 3) = x3 at *
  obtain ⟨y0, e0, q0, h0⟩ := cs_i64 (x0 + 1)
  try simp only [e0] at *
  omega
noncomputable def f56 : E := (.imp (.and (.not (.cmp .lss (.int 80) (.fn 9 (.pr (.var 2) (.int 4))))) (.and (.not (.cmp .lss (.fn 9 (.pr (.var 2) (.int 4))) (.var 3))) (.and (.not (.cmp .lss (.int 80) (.var 3))) (.and (.not (.cmp .lss (.var 3) (.int 0))) (.and (.cmp .lss (.var 3) (.fn 9 (.pr (.var 2) (.int 4)))) (.and (.not (.cmp .lss (.var 25) (.var 28))) (.and (.not (.cmp .lss (.var 28) (.int 0))) (.and (.not (.cmp .lss (.fn 6 (.pr (.var 3) (.int 1))) (.var 25))) (.and (.not (.cmp .lss (.var 25) (.int 0))) (.and (.not (.cmp .lss (.int 80) (.fn 9 (.pr (.var 2) (.int 4))))) (.and (.not (.cmp .lss (.fn 9 (.pr (.var 2) (.int 4))) (.var 3))) (.and (.not (.cmp .lss (.int 80) (.var 3))) (.not (.cmp .lss (.var 3) (.int 0))))))))))))))) (.not (.cmp .lss (.fn 9 (.pr (.var 2) (.int 4))) (.ar .add .i64 (.var 3) (.int 1)))))
theorem fact56 (ρ : Env) : E.B ρ f56 = true := by
  unfold f56
  simp only [sm_I_int, sm_I_mn, sm_I_mx, sm_I_add_u64, sm_I_sub_u64, sm_I_add_i64, sm_I_sub_i64, sm_I_mul_i64, sm_I_fn6, sm_I_fn7, sm_I_fn8, sm_B_bool, sm_B_eql, sm_B_lss, sm_B_not, sm_B_and, sm_B_imp, sm_B_iff]
  rintro ⟨p0, p1, p2, p3, p4, p5, p6, p7, p8, p9, p10, p11, p12⟩
  try generalize E.I ρ (.fn 9 (.pr (.var 2) (.int 4))) = x0 at *
  try generalize E.I ρ (.var 3) = x1 at *
  try generalize E.I ρ (.var 25) = x2 at *
  try generalize E.I ρ (.var 28) = x3 at *
  obtain ⟨y0, e0, q0, h0⟩ := cs_i64 (x1 + 1)
  try simp only [e0] at *
  omega
noncomputable def f57 : E := (.imp (.and (.cmp .lss (.var 28) (.var 25)) (.and (.fn 33 (.pr (.var 21) (.var 28))) (.and (.not (.cmp .eql (.fn 32 (.pr (.var 21) (.pr (.var 28) (.int 0)))) (.int (-1)))) (.and (.not (.cmp .eql (.fn 32 (.pr (.var 21) (.pr (.var 28) (.int 0)))) (.int 0))) (.and (.not (.cmp .lss (.int 80) (.fn 9 (.pr (.var 2) (.int 4))))) (.and (.not (.cmp .lss (.fn 9 (.pr (.var 2) (.int 4))) (.var 3))) (.and (.not (.cmp .lss (.int 80) (.var 3))) (.and (.not (.cmp .lss (.var 3) (.int 0))) (.and (.cmp .lss (.var 3) (.fn 9 (.pr (.var 2) (.int 4)))) (.and (.cmp .eql (.var 30) (.fn 112 (.pr (.var 24) (.var 28)))) (.and (.cmp .eql (.var 29) (.fn 112 (.pr (.var 23) (.var 28)))) (.and (.not (.cmp .lss (.var 25) (.var 28))) (.and (.not (.cmp .lss (.var 28) (.int 0))) (.and (.not (.cmp .lss (.fn 6 (.pr (.var 3) (.int 1))) (.var 25))) (.and (.not (.cmp .lss (.var 25) (.int 0))) (.and (.fn 111 (.pr (.var 21) (.pr (.var 22) (.pr (.var 23) (.pr (.var 24) (.pr (.var 25) (.pr (.var 26) (.var 27)))))))) (.and (.not (.cmp .lss (.int 80) (.fn 9 (.pr (.var 2) (.int 4))))) (.and (.not (.cmp .lss (.fn 9 (.pr (.var 2) (.int 4))) (.var 3))) (.and (.not (.cmp .lss (.int 80) (.var 3))) (.not (.cmp .lss (.var 3) (.int 0)))))))))))))))))))))) (.cmp .eql (.var 29) (.fn 112 (.pr (.var 23) (.ar .add .i64 (.var 28) (.int 1))))))
theorem fact57 (ρ : Env) : E.B ρ f57 = true := by
  unfold f57
  simp only [sm_I_int, sm_I_fn6, sm_I_fn7, sm_I_fn8, sm_B_bool, sm_B_eql, sm_B_lss, sm_B_not, sm_B_and, sm_B_imp, sm_I_add_i64, sm_I_sub_i64, d111, d112, d33, d32, d32b, dL34, dL35, dL10, dd_int, dd_bool]
  rintro ⟨p0, p1, p2, p3, p4, p5, p6, p7, p8, p9, p10, p11, p12, p13, p14, p15, p16, p17, p18, p19⟩
  have hc15 := relH_c p15
  have cq0 := cnt_le (E.I ρ (.var 24)) (E.I ρ (.var 28))
  have cq1 := cnt_le (E.I ρ (.var 23)) (E.I ρ (.var 28))
  obtain ⟨y0, e0, q0, h0⟩ := cs_i64 ((E.I ρ (.var 28)) + (1))
  have w0 := h0 (by omega) (by omega)
  simp only [e0] at *
  subst w0
  rcases relH_look p15 (E.I ρ (.var 28)) with ⟨hn, hh, hg⟩ | ⟨v, hn, h1, h2, h3, h4, h5, h6, h7, h8, h9⟩
  all_goals rw [cnt_step (by omega)]
  · first
      | (exfalso; simp only [hn] at *; simp_all; done)
      | (have hg2 := hg (by omega); rw [if_neg (by omega)]; omega)
  · simp only [hn, Option.isSome_some, Option.getD_some] at *
    first
      | (rw [if_neg (by omega)]; omega)
      | (rw [if_pos (by omega)]; omega)
      | (exfalso; simp_all; done)
noncomputable def f58 : E := (.imp (.and (.not (.cmp .lss (.int 80) (.fn 9 (.pr (.var 2) (.int 4))))) (.and (.not (.cmp .lss (.fn 9 (.pr (.var 2) (.int 4))) (.var 3))) (.and (.not (.cmp .lss (.int 80) (.var 3))) (.and (.not (.cmp .lss (.var 3) (.int 0))) (.and (.cmp .lss (.var 3) (.fn 9 (.pr (.var 2) (.int 4)))) (.and (.not (.cmp .lss (.var 25) (.var 28))) (.and (.not (.cmp .lss (.var 28) (.int 0))) (.and (.not (.cmp .lss (.fn 6 (.pr (.var 3) (.int 1))) (.var 25))) (.and (.not (.cmp .lss (.var 25) (.int 0))) (.and (.not (.cmp .lss (.int 80) (.fn 9 (.pr (.var 2) (.int 4))))) (.and (.not (.cmp .lss (.fn 9 (.pr (.var 2) (.int 4))) (.var 3))) (.and (.not (.cmp .lss (.int 80) (.var 3))) (.not (.cmp .lss (.var 3) (.int 0))))))))))))))) (.cmp .lss (.fn 7 (.pr (.fn 9 (.pr (.var 2) (.int 4))) (.ar .add .i64 (.var 3) (.int 1)))) (.fn 7 (.pr (.fn 9 (.pr (.var 2) (.int 4))) (.var 3)))))
theorem fact58 (ρ : Env) : E.B ρ f58 = true := by
  unfold f58
  simp only [sm_I_int, sm_I_mn, sm_I_mx, sm_I_add_u64, sm_I_sub_u64, sm_I_add_i64, sm_I_sub_i64, sm_I_mul_i64, sm_I_fn6, sm_I_fn7, sm_I_fn8, sm_B_bool, sm_B_eql, sm_B_lss, sm_B_not, sm_B_and, sm_B_imp, sm_B_iff]
  rintro ⟨p0, p1, p2, p3, p4, p5, p6, p7, p8, p9, p10, p11, p12⟩
  try generalize E.I ρ (.fn 9 (.pr (.var 2) (.int 4))) = x0 at *
  try generalize E.I ρ (.var 3) = x1 at *
  try generalize E.I ρ (.var 25) = x2 at *
  try generalize E.I ρ (.var 28) = x3 at *
  obtain ⟨y0, e0, q0, h0⟩ := cs_i64 (x1 + 1)
  try simp only [e0] at *
  omega
noncomputable def f59 : E := (.imp (.and (.cmp .lss (.var 28) (.var 25)) (.and (.fn 33 (.pr (.var 21) (.var 28))) (.and (.not (.cmp .eql (.fn 32 (.pr (.var 21) (.pr (.var 28) (.int 0)))) (.int (-1)))) (.and (.not (.cmp .eql (.fn 32 (.pr (.var 21) (.pr (.var 28) (.int 0)))) (.int 0))) (.and (.not (.cmp .lss (.int 80) (.fn 9 (.pr (.var 2) (.int 4))))) (.and (.not (.cmp .lss (.fn 9 (.pr (.var 2) (.int 4))) (.var 3))) (.and (.not (.cmp .lss (.int 80) (.var 3))) (.and (.not (.cmp .lss (.var 3) (.int 0))) (.and (.cmp .lss (.var 3) (.fn 9 (.pr (.var 2) (.int 4)))) (.and (.cmp .eql (.var 30) (.fn 112 (.pr (.var 24) (.var 28)))) (.and (.cmp .eql (.var 29) (.fn 112 (.pr (.var 23) (.var 28)))) (.and (.not (.cmp .lss (.var 25) (.var 28))) (.and (.not (.cmp .lss (.var 28) (.int 0))) (.and (.not (.cmp .lss (.fn 6 (.pr (.var 3) (.int 1))) (.var 25))) (.and (.not (.cmp .lss (.var 25) (.int 0))) (.and (.fn 111 (.pr (.var 21) (.pr (.var 22) (.pr (.var 23) (.pr (.var 24) (.pr (.var 25) (.pr (.var 26) (.var 27)))))))) (.and (.not (.cmp .lss (.int 80) (.fn 9 (.pr (.var 2) (.int 4))))) (.and (.not (.cmp .lss (.fn 9 (.pr (.var 2) (.int 4))) (.var 3))) (.and (.not (.cmp .lss (.int 80) (.var 3))) (.not (.cmp .lss (.var 3) (.int 0)))))))))))))))))))))) (.cmp .eql (.ar .add .i64 (.var 30) (.int 1)) (.fn 112 (.pr (.var 24) (.ar .add .i64 (.var 28) (.int 1))))))
theorem fact59 (ρ : Env) : E.B ρ f59 = true := by
  unfold f59
  simp only [sm_I_int, sm_I_fn6, sm_I_fn7, sm_I_fn8, sm_B_bool, sm_B_eql, sm_B_lss, sm_B_not, sm_B_and, sm_B_imp, sm_I_add_i64, sm_I_sub_i64, d111, d112, d33, d32, d32b, dL34, dL35, dL10, dd_int, dd_bool]
  rintro ⟨p0, p1, p2, p3, p4, p5, p6, p7, p8, p9, p10, p11, p12, p13, p14, p15, p16, p17, p18, p19⟩
  have hc15 := relH_c p15
  have cq0 := cnt_le (E.I ρ (.var 24)) (E.I ρ (.var 28))
  have cq1 := cnt_le (E.I ρ (.var 23)) (E.I ρ (.var 28))
  obtain ⟨y0, e0, q0, h0⟩ := cs_i64 ((E.I ρ (.var 30)) + (1))
  have w0 := h0 (by omega) (by omega)
  simp only [e0] at *
  subst w0
  obtain ⟨y1, e1, q1, h1⟩ := cs_i64 ((E.I ρ (.var 28)) + (1))
  have w1 := h1 (by omega) (by omega)
  simp only [e1] at *
  subst w1
  rcases relH_look p15 (E.I ρ (.var 28)) with ⟨hn, hh, hg⟩ | ⟨v, hn, h1, h2, h3, h4, h5, h6, h7, h8, h9⟩
  all_goals rw [cnt_step (by omega)]
  · first
      | (exfalso; simp only [hn] at *; simp_all; done)
      | (have hg2 := hg (by omega); rw [if_neg (by omega)]; omega)
  · simp only [hn, Option.isSome_some, Option.getD_some] at *
    first
      | (rw [if_neg (by omega)]; omega)
      | (rw [if_pos (by omega)]; omega)
      | (exfalso; simp_all; done)
noncomputable def f60 : E := (.imp (.and (.not (.cmp .lss (.int 80) (.fn 9 (.pr (.var 2) (.int 4))))) (.and (.not (.cmp .lss (.fn 9 (.pr (.var 2) (.int 4))) (.var 3))) (.and (.not (.cmp .lss (.int 80) (.var 3))) (.and (.not (.cmp .lss (.var 3) (.int 0))) (.and (.cmp .lss (.var 3) (.fn 9 (.pr (.var 2) (.int 4)))) (.and (.not (.cmp .lss (.var 25) (.var 28))) (.and (.not (.cmp .lss (.var 28) (.int 0))) (.and (.not (.cmp .lss (.fn 6 (.pr (.var 3) (.int 1))) (.var 25))) (.and (.not (.cmp .lss (.var 25) (.int 0))) (.and (.not (.cmp .lss (.int 80) (.fn 9 (.pr (.var 2) (.int 4))))) (.and (.not (.cmp .lss (.fn 9 (.pr (.var 2) (.int 4))) (.var 3))) (.and (.not (.cmp .lss (.int 80) (.var 3))) (.not (.cmp .lss (.var 3) (.int 0))))))))))))))) (.not (.cmp .lss (.fn 7 (.pr (.fn 9 (.pr (.var 2) (.int 4))) (.ar .add .i64 (.var 3) (.int 1)))) (.int 0))))
theorem fact60 (ρ : Env) : E.B ρ f60 = true := by
  unfold f60
  simp only [sm_I_int, sm_I_mn, sm_I_mx, sm_I_add_u64, sm_I_sub_u64, sm_I_add_i64, sm_I_sub_i64, sm_I_mul_i64, sm_I_fn6, sm_I_fn7, sm_I_fn8, sm_B_bool, sm_B_eql, sm_B_lss, sm_B_not, sm_B_and, sm_B_imp, sm_B_iff]
  rintro ⟨p0, p1, p2, p3, p4, p5, p6, p7, p8, p9, p10, p11, p12⟩
  try generalize E.I ρ (.fn 9 (.pr (.var 2) (.int 4))) = x0 at *
  try generalize E.I ρ (.var 3) = x1 at *
  try generalize E.I ρ (.var 25) = x2 at *
  try generalize E.I ρ (.var 28) = x3 at *
  obtain ⟨y0, e0, q0, h0⟩ := cs_i64 (x1 + 1)
  try simp only [e0] at *
  omega
noncomputable def facts : List E := [f0, f1, f2, f3, f4, f5, f6, f7, f8, f9, f10, f11, f12, f13, f14, f15, f16, f17, f18, f19, f20, f21, f22, f23, f24, f25, f26, f27, f28, f29, f30, f31, f32, f33, f34, f35, f36, f37, f38, f39, f40, f41, f42, f43, f44, f45, f46, f47, f48, f49, f50, f51, f52, f53, f54, f55, f56, f57, f58, f59, f60]
theorem facts_ok : ∀ e ∈ facts, ∀ ρ : Env, E.B ρ e = true := (all_cons fact0 (all_cons fact1 (all_cons fact2 (all_cons fact3 (all_cons fact4 (all_cons fact5 (all_cons fact6 (all_cons fact7 (all_cons fact8 (all_cons fact9 (all_cons fact10 (all_cons fact11 (all_cons fact12 (all_cons fact13 (all_cons fact14 (all_cons fact15 (all_cons fact16 (all_cons fact17 (all_cons fact18 (all_cons fact19 (all_cons fact20 (all_cons fact21 (all_cons fact22 (all_cons fact23 (all_cons fact24 (all_cons fact25 (all_cons fact26 (all_cons fact27 (all_cons fact28 (all_cons fact29 (all_cons fact30 (all_cons fact31 (all_cons fact32 (all_cons fact33 (all_cons fact34 (all_cons fact35 (all_cons fact36 (all_cons fact37 (all_cons fact38 (all_cons fact39 (all_cons fact40 (all_cons fact41 (all_cons fact42 (all_cons fact43 (all_cons fact44 (all_cons fact45 (all_cons fact46 (all_cons fact47 (all_cons fact48 (all_cons fact49 (all_cons fact50 (all_cons fact51 (all_cons fact52 (all_cons fact53 (all_cons fact54 (all_cons fact55 (all_cons fact56 (all_cons fact57 (all_cons fact58 (all_cons fact59 (all_cons fact60 all_nil)))))))))))))))))))))))))))))))))))))))))))))))))))))))))))))
end l0
set_option maxRecDepth 100000 in
theorem body0_0_0 : BodyOk Try.prog (ann1 (some y1)) y1 (t0).less (t0).tmps { (t0).st with pc := (what 0) :: (t0).st.pc } :=
  body_of_check good (facts := l0.facts) l0.facts_ok (anns := [annI]) (plainAnns_ok _ (by kernel_rfl)) (nats := natl2) natl2_ok (n := 3000) (by kernel_rfl) (by kernel_rfl)
set_option maxRecDepth 100000 in
theorem body0_0_1 : BodyOk Try.prog (ann1 (some y1)) y1 (t0).less (t0).tmps { (t0).st with pc := (what 1) :: .not (what 0) :: (t0).st.pc } :=
  body_of_check good (facts := l0.facts) l0.facts_ok (anns := [annI]) (plainAnns_ok _ (by kernel_rfl)) (nats := natl2) natl2_ok (n := 3000) (by kernel_rfl) (by kernel_rfl)
set_option maxRecDepth 100000 in
theorem body0_0_2 : BodyOk Try.prog (ann1 (some y1)) y1 (t0).less (t0).tmps { (t0).st with pc := (what 2) :: .not (what 1) :: .not (what 0) :: (t0).st.pc } :=
  body_of_check good (facts := l0.facts) l0.facts_ok (anns := [annI]) (plainAnns_ok _ (by kernel_rfl)) (nats := natl2) natl2_ok (n := 3000) (by kernel_rfl) (by kernel_rfl)
set_option maxRecDepth 100000 in
theorem body0_0_3 : BodyOk Try.prog (ann1 (some y1)) y1 (t0).less (t0).tmps { (t0).st with pc := .not (what 2) :: .not (what 1) :: .not (what 0) :: (t0).st.pc } :=
  body_of_check good (facts := l0.facts) l0.facts_ok (anns := [annI]) (plainAnns_ok _ (by kernel_rfl)) (nats := natl2) natl2_ok (n := 3000) (by kernel_rfl) (by kernel_rfl)
theorem body0_0 : BodyOk Try.prog (ann1 (some y1)) y1 (t0).less (t0).tmps (t0).st := (BodyOk.cases (what 0) body0_0_0 (BodyOk.cases (what 1) body0_0_1 (BodyOk.cases (what 2) body0_0_2 body0_0_3)))
theorem loop0 : LoopOk Try.prog (ann1 (some y1)) := loop_of_bodies rfl (by kernel_rfl) (by
  intro τ hτ
  rcases List.mem_cons.1 hτ with rfl | hτ
  · exact body0_0
  cases hτ)
noncomputable def annsM : List Ann := [ann1 (some y1)]
theorem annsM_ok : ∀ x ∈ annsM, LoopOk Try.prog x := by
  intro x hx
  rcases List.mem_cons.1 hx with rfl | hx
  · exact loop0
  cases hx
namespace m
noncomputable def f0 : E := (.imp (.not (.cmp .lss (.int 80) (.fn 9 (.pr (.var 2) (.int 4))))) (.fn 111 (.pr (.fn 10 (.int 0)) (.pr (.fn 10 (.int 0)) (.pr (.int (-1)) (.pr (.int (-1)) (.pr (.int 0) (.pr (.bool false) (.bool false)))))))))
theorem fact0 (ρ : Env) : E.B ρ f0 = true := by
  unfold f0
  simp only [sm_B_imp, sm_B_and, sm_B_not, sm_B_lss]
  intros
  show relH [] [] (-1) (-1) 0 false false = true
  rfl
noncomputable def facts : List E := [f0]
theorem facts_ok : ∀ e ∈ facts, ∀ ρ : Env, E.B ρ e = true := (all_cons fact0 all_nil)
end m
set_option maxRecDepth 100000 in
theorem reckoned : withTab Try.prog (fun tb => checkAll outTrue (run Try.prog (tb.plus m.facts annsM natl2) 3000 (.call 5 args) .nil (varSt 3 pc0) SX.one)) = true := by kernel_rfl

set_option maxRecDepth 100000 in
theorem walk {H : Type} (W : World) (base : Nat) (enc : TypeId × Value → H) (v0 : Value) (d0 : DataW H) (p0 : List MemPlace) (v1 : Value) (d1 : DataW H) (p1 : List MemPlace) (v2 : Value) (d2 : DataW H) (p2 : List MemPlace)
    (o0 : Value.okWide Try.prog W .any base 9 v0) (h0 : DataW.Trod enc Try.prog W 0 (fun _ => true) true 9 v0 d0 p0)
    (o1 : Value.okWide Try.prog W .any base 9 v1) (h1 : DataW.Trod enc Try.prog W 0 (fun _ => true) true 9 v1 d1 p1)
    (o2 : Value.okWide Try.prog W .any base 40 v2) (h2 : DataW.Trod enc Try.prog W 0 (fun _ => true) true 40 v2 d2 p2) :
    Calls Try.prog 5 #[v0, v1, v2] W fun e W' => e = .returned (.bool true) ∧ Below W.heap.size W W' := by
  obtain ⟨x0, rfl, _, _, w0⟩ := open_str Try.underlying9 o0 h0
  obtain ⟨x1, rfl, _, _, w1⟩ := open_str Try.underlying9 o1 h1
  obtain ⟨x2, rfl, k2, w2⟩ := open_slc (n := 9) (ks := [.int .i64, .int .i64, .int .i64, .str]) Try.underlying40 (by kernel_rfl) o2 h2
  have q2 := typ_slc w2
  refine true_of_check2 good (facts := m.facts) m.facts_ok (anns := annsM) annsM_ok natl2_ok (vs := [.str x0, .str x1, x2]) (pc := pc0) reckoned ?_ W ⟨trivial, ⟨trivial, ⟨k2, trivial⟩⟩⟩
  unfold pc0
  try simp only [u64R, i64R, List.cons_append, List.nil_append]
  repeat' (refine pc_cons ?_ ?_)
  all_goals first
    | exact pc_nil
    | (first | exact q2 | skip; done)
    | (simp only [eLe, eLt, eV, Env.of, sm_I_int, sm_I_var, sm_B_lss, sm_B_not, getD_cons_zero, getD_cons_succ, toI_int]; omega)

set_option maxRecDepth 100000 in
theorem lifted (os : Os) (started : os.Started) (H : Type) (enc : TypeId × Value → H) :
    ReturnsInHanded {} Try.checked os 5 .any (Rows.sessionHoldsSpec.pre6 enc Try.prog Try.f5 Rows.sessionHoldsRow.domain false) (Rows.sessionHoldsSpec.post enc Try.prog Try.f5 false true false false) := by
  refine returnsInHanded_of_change (C := Try.checked) own started (by kernel_rfl) Try.func5
    (ChangeSpec.witness6 (enc := enc) (C := Try.checked) false ⟨#[], #[.string ByteArray.empty, .string ByteArray.empty, .slice none 0 0], []⟩ 8 (by kernel_rfl) (by kernel_rfl) (by kernel_rfl) (by kernel_rfl)) ?_
  intro W base args ds gs before hval0 hW hcnd _
  have hval : ∀ (j : Nat) t v, Try.f5.params[j]? = some t → args[j]? = some v → Value.okWide Try.prog W .any base t v := hval0
  have hW' := hW
  obtain ⟨p, q, hA0, hV, rfl, hfz, hnd⟩ := hW
  have hA : DataW.TrodAll enc Try.prog W 0 (fun _ => true) true Try.f5.params.toList args.toList ds p := hA0
  rw [Try.params5] at hA hval
  obtain ⟨v0, vs0, d0, ds0, p0, q0, hargs, rfl, rfl, h0, r0⟩ := trodAll_cons hA
  obtain ⟨v1, vs1, d1, ds1, p1, q1, rfl, rfl, rfl, h1, r1⟩ := trodAll_cons r0
  obtain ⟨v2, vs2, d2, ds2, p2, q2, rfl, rfl, rfl, h2, r2⟩ := trodAll_cons r1
  obtain ⟨rfl, rfl, rfl⟩ := trodAll_nil r2
  obtain rfl : args = #[v0, v1, v2] := by cases args; simp_all
  obtain ⟨rfl, rfl⟩ := trodVars_none hV
  have lt0 : ∀ x ∈ p0, x.block < W.heap.size := by obtain ⟨m, hm⟩ := h0; exact DataW.trod_lt m _ _ _ hm
  have lt1 : ∀ x ∈ p1, x.block < W.heap.size := by obtain ⟨m, hm⟩ := h1; exact DataW.trod_lt m _ _ _ hm
  have lt2 : ∀ x ∈ p2, x.block < W.heap.size := by obtain ⟨m, hm⟩ := h2; exact DataW.trod_lt m _ _ _ hm
  have o0 := hval 0 9 v0 rfl rfl
  have o1 := hval 1 9 v1 rfl rfl
  have o2 := hval 2 40 v2 rfl rfl
  clear hA0 hval0
  refine (walk W base enc v0 d0 p0 v1 d1 p1 v2 d2 p2 o0 h0 o1 h1 o2 h2).mono fun e W' ⟨he, bel⟩ => ?_
  subst he
  exact ⟨_, rfl, _, _, _, [], _, [], hW', trodAll_mk1 (shut_bool Try.underlying4 _), (trodAll_cons_mk (Below.trod laidOut (by kernel_rfl) (of_decide_eq_true (by kernel_rfl)) h0 bel lt0) (trodAll_cons_mk (Below.trod laidOut (by kernel_rfl) (of_decide_eq_true (by kernel_rfl)) h1 bel lt1) (trodAll_cons_mk (Below.trod laidOut (by kernel_rfl) (of_decide_eq_true (by kernel_rfl)) h2 bel lt2) trodAll_mk0))), rfl, bel.frame _, fun h => by cases h⟩

theorem over : Rows.sessionHoldsRow.holds Try.pinned (OpenSpec.ofChange Rows.sessionHoldsSpec) :=
  OpenClaim.holds_of_wide 5 Try.f5 rfl rfl rfl rfl rfl rfl rfl ⟨rfl, rfl, rfl, rfl, rfl⟩ rfl rfl rfl rfl rfl (by kernel_rfl) Try.func5 (by kernel_rfl)
    (of_decide_eq_true (by kernel_rfl)) (by unfold Func.isWrapper; first | (rw [if_pos (by decide +kernel)]; kernel_rfl) | (rw [if_neg (by decide +kernel)]; exact ⟨rfl, rfl⟩))
    (fun os started H enc _ => lifted os started H enc)

theorem proved : Rows.SessionHoldsSaid := over

end Go.Proofs.Ytphcdmgmeiefhaa.sessionHolds

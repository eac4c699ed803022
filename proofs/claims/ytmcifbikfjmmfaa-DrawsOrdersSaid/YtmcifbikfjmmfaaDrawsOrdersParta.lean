/-
  DrawsOrders: each order of at most five elements comes by some draws, and each by only one of those below the bounds; reckoned by the kernel round by round.
-/
import Derived.Test.YtmcifbikfjmmfaaRows
import Derived.Test.YtmcifbikfjmmfaaSXd
import Derived.WalkKit
import Derived.ProofKit
import Derived.OpenShut
import Derived.ChangeOld
import Derived.Below
import Derived.KernelRfl
import Derived.Lib.SmallJoins
namespace Go.Proofs.Ytmcifbikfjmmfaa.drawsOrders
open Go.ChangeShapes Go.WideShapes Go.ChangeAt Go.RowKit
open Go.SX
set_option linter.unusedVariables false
set_option linter.unusedSimpArgs false
set_option maxRecDepth 100000
theorem own : ownKnob Try.prog.godebug = none := by kernel_rfl
theorem laidOut : laidOutB Try.prog = true := by kernel_rfl
theorem good : progOk Try.prog = true := by kernel_rfl
/-- the draw for a digit -/
noncomputable def x3 (d b : Int) : E := .wr .i64 (.ar .rem .u64 (.ar .add .u64 (.int d) (.ar .mul .u64 (.int b) (.ar .rem .u64 (.var 0) (.int 1000)))) (.int b))
noncomputable def pos : E := .not (.cmp .lss (.var 0) (.int 0))
noncomputable def yes (d b : Int) : E := .imp pos (.cmp .eql (x3 d b) (.int d))
noncomputable def no (d b c : Int) : E := .imp pos (.not (.cmp .eql (x3 d b) (.int c)))
theorem wrapI (x : Int) (h : 0 ≤ x) (k : x < 9223372036854775808) : IntKind.i64.wrap x = x := by
  simp only [IntKind.wrap, IntKind.bits, IntKind.signed, Bool.true_and]; split <;> simp_all <;> omega
theorem wrapU (x : Int) (h : 0 ≤ x) (k : x < 18446744073709551616) : IntKind.u64.wrap x = x := by
  simp only [IntKind.wrap, IntKind.bits, IntKind.signed, Bool.false_and]; simp; omega
theorem digit (x d b : Int) (hx : 0 ≤ x) (h0 : 0 ≤ d) (h1 : d < b) (h2 : b ≤ 5) :
    IntKind.i64.wrap ((IntKind.u64.wrap (d + IntKind.u64.wrap (b * x.tmod 1000))).tmod b) = d := by
  have h3 : x.tmod 1000 = x % 1000 := Int.tmod_eq_emod_of_nonneg hx
  rw [h3]
  have h4 : 0 ≤ x % 1000 := Int.emod_nonneg _ (by decide)
  have h5 : x % 1000 < 1000 := Int.emod_lt_of_pos _ (by decide)
  generalize x % 1000 = k at *
  have h6 : 0 ≤ b * k := Int.mul_nonneg (by omega) h4
  have h7 : b * k ≤ 5 * 1000 := Int.mul_le_mul h2 (by omega) h4 (by decide)
  rw [wrapU (b * k) h6 (by omega), wrapU _ (by omega) (by omega), Int.tmod_eq_emod_of_nonneg (by omega), Int.add_mul_emod_self_left, Int.emod_eq_of_lt h0 h1, wrapI _ h0 (by omega)]
theorem x3_I (ρ : Env) (d b : Int) (hp : 0 ≤ E.I ρ (.var 0)) (h0 : 0 ≤ d) (h1 : d < b) (h2 : b ≤ 5) : E.I ρ (x3 d b) = d := digit _ d b hp h0 h1 h2
theorem pos_ok {ρ : Env} (h : E.B ρ pos = true) : 0 ≤ E.I ρ (.var 0) := by
  unfold pos at h
  simp only [sm_B_not, sm_B_lss, sm_I_int] at h
  omega
theorem yes_ok (d b : Int) (h0 : 0 ≤ d) (h1 : d < b) (h2 : b ≤ 5) (ρ : Env) : E.B ρ (yes d b) = true := by
  unfold yes
  rw [sm_B_imp]
  intro hp
  rw [sm_B_eql, x3_I ρ d b (pos_ok hp) h0 h1 h2, sm_I_int]
theorem no_ok (d b c : Int) (h0 : 0 ≤ d) (h1 : d < b) (h2 : b ≤ 5) (hc : c ≠ d) (ρ : Env) : E.B ρ (no d b c) = true := by
  unfold no
  rw [sm_B_imp]
  intro hp
  rw [sm_B_not, sm_B_eql, x3_I ρ d b (pos_ok hp) h0 h1 h2, sm_I_int]
  exact fun e => hc e.symm
noncomputable def facts : List E := [yes 0 2, no 1 2 0, yes 1 2, yes 0 3, no 1 3 0, yes 1 3, no 2 3 0, no 2 3 1, yes 2 3, yes 0 4, no 1 4 0, yes 1 4, no 2 4 0, no 2 4 1, yes 2 4, no 3 4 0, no 3 4 1, no 3 4 2, yes 3 4, yes 0 5, no 1 5 0, yes 1 5, no 2 5 0, no 2 5 1, yes 2 5, no 3 5 0, no 3 5 1, no 3 5 2, yes 3 5, no 4 5 0, no 4 5 1, no 4 5 2, no 4 5 3, yes 4 5]
theorem facts_ok : ∀ e ∈ facts, ∀ ρ : Env, E.B ρ e = true :=
  all_cons (yes_ok 0 2 (by decide) (by decide) (by decide)) (
  all_cons (no_ok 1 2 0 (by decide) (by decide) (by decide) (by decide)) (
  all_cons (yes_ok 1 2 (by decide) (by decide) (by decide)) (
  all_cons (yes_ok 0 3 (by decide) (by decide) (by decide)) (
  all_cons (no_ok 1 3 0 (by decide) (by decide) (by decide) (by decide)) (
  all_cons (yes_ok 1 3 (by decide) (by decide) (by decide)) (
  all_cons (no_ok 2 3 0 (by decide) (by decide) (by decide) (by decide)) (
  all_cons (no_ok 2 3 1 (by decide) (by decide) (by decide) (by decide)) (
  all_cons (yes_ok 2 3 (by decide) (by decide) (by decide)) (
  all_cons (yes_ok 0 4 (by decide) (by decide) (by decide)) (
  all_cons (no_ok 1 4 0 (by decide) (by decide) (by decide) (by decide)) (
  all_cons (yes_ok 1 4 (by decide) (by decide) (by decide)) (
  all_cons (no_ok 2 4 0 (by decide) (by decide) (by decide) (by decide)) (
  all_cons (no_ok 2 4 1 (by decide) (by decide) (by decide) (by decide)) (
  all_cons (yes_ok 2 4 (by decide) (by decide) (by decide)) (
  all_cons (no_ok 3 4 0 (by decide) (by decide) (by decide) (by decide)) (
  all_cons (no_ok 3 4 1 (by decide) (by decide) (by decide) (by decide)) (
  all_cons (no_ok 3 4 2 (by decide) (by decide) (by decide) (by decide)) (
  all_cons (yes_ok 3 4 (by decide) (by decide) (by decide)) (
  all_cons (yes_ok 0 5 (by decide) (by decide) (by decide)) (
  all_cons (no_ok 1 5 0 (by decide) (by decide) (by decide) (by decide)) (
  all_cons (yes_ok 1 5 (by decide) (by decide) (by decide)) (
  all_cons (no_ok 2 5 0 (by decide) (by decide) (by decide) (by decide)) (
  all_cons (no_ok 2 5 1 (by decide) (by decide) (by decide) (by decide)) (
  all_cons (yes_ok 2 5 (by decide) (by decide) (by decide)) (
  all_cons (no_ok 3 5 0 (by decide) (by decide) (by decide) (by decide)) (
  all_cons (no_ok 3 5 1 (by decide) (by decide) (by decide) (by decide)) (
  all_cons (no_ok 3 5 2 (by decide) (by decide) (by decide) (by decide)) (
  all_cons (yes_ok 3 5 (by decide) (by decide) (by decide)) (
  all_cons (no_ok 4 5 0 (by decide) (by decide) (by decide) (by decide)) (
  all_cons (no_ok 4 5 1 (by decide) (by decide) (by decide) (by decide)) (
  all_cons (no_ok 4 5 2 (by decide) (by decide) (by decide) (by decide)) (
  all_cons (no_ok 4 5 3 (by decide) (by decide) (by decide) (by decide)) (
  all_cons (yes_ok 4 5 (by decide) (by decide) (by decide)) (
  all_nil))))))))))))))))))))))))))))))))))
noncomputable def natl0 : List Nat1 := []
theorem natl0_ok : ∀ x ∈ natl0, NatOk Try.prog x := fun x hx => by cases hx
set_option maxRecDepth 100000 in
theorem reckoned0 : withTab Try.prog (fun tb => checkAll outTrue (run Try.prog (tb.plus [] [] natl0) 3000 (.call 8 []) .nil (varSt 0 []) SX.one)) = true := by kernel_rfl
noncomputable def natl : List Nat1 := closedNat 8 :: natl0
theorem natl_ok : ∀ x ∈ natl, NatOk Try.prog x := by
  intro x hx
  rcases List.mem_cons.1 hx with rfl | hx
  · exact closed_of_check good (facts := []) all_nil (anns := []) (plainAnns_ok [] rfl) (nats := natl0) natl0_ok reckoned0
  · exact natl0_ok x hx
noncomputable def pc1 : List E := u64R [0]
noncomputable def args (k : Int) : List SV := [.int .i64 (.int k), .int .u64 (.var 0)]
noncomputable def ii (n : Int) : SV := .int .i64 (.int n)
noncomputable def ent (b a0 a1 a2 a3 a4 : Int) : Ent := ⟨.agg [ii a0, ii a1, ii a2, ii a3, ii a4], .bool (.bool true), .int b⟩
noncomputable def gone : Blk := ⟨true, .gone⟩

noncomputable def ents4 : List Ent := [ent 0 1 2 3 0 0, ent 1 3 2 0 1 0, ent 2 1 3 0 2 0, ent 3 1 2 0 3 0, ent 4 2 3 1 0 0, ent 5 2 0 3 1 0, ent 6 3 0 1 2 0, ent 7 2 0 1 3 0, ent 8 1 3 2 0 0, ent 9 3 0 2 1 0, ent 10 1 0 3 2 0, ent 11 1 0 2 3 0, ent 12 2 1 3 0 0, ent 13 2 3 0 1 0, ent 14 3 1 0 2 0, ent 15 2 1 0 3 0, ent 16 3 2 1 0 0, ent 17 0 2 3 1 0, ent 18 0 3 1 2 0, ent 19 0 2 1 3 0, ent 20 3 1 2 0 0, ent 21 0 3 2 1 0, ent 22 0 1 3 2 0, ent 23 0 1 2 3 0]
noncomputable def t4 (n : Nat) (es : List Ent) (left : Int) : Tmpl := ⟨tmSlots 104 [(0, ii 4), (1, .int .u64 (eV 0)), (5, .nslice 7 (.int 4) (eV 4)), (6, ii 24), (8, .map 8), (9, .int .i64 (.int (.ofNat n)))],
  ⟨5, 9, heapL [gone, gone, gone, gone, gone, gone, gone, ⟨true, .cells [ii 0, ii 1, ii 2, ii 3] (eV 4) 3⟩, ⟨true, .map es (.int (.ofNat n))⟩], pc1 ++ [eLe (.int 4) (eV 4)]⟩, .int left⟩
noncomputable def tsGo4 : Nat → Nat → List Tmpl
  | 0, _ => []
  | k + 1, n => t4 n (ents4.take n) (.ofNat k) :: tsGo4 k (n + 1)
noncomputable def ts4 : List Tmpl := tsGo4 25 0
noncomputable def y4 : LoopX := ⟨5, 9, [⟨.exit 2, tmSlots 104 [], ⟨5, 9, heapL [gone, gone, gone, gone, gone, gone, gone, gone, gone], []⟩⟩]⟩
noncomputable def ann4 : Ann := ⟨3, 2, ts4, some y4⟩
set_option maxRecDepth 100000 in
theorem body4_0 : BodyOk Try.prog ann4 y4 (t4 0 (ents4.take 0) 24).less (t4 0 (ents4.take 0) 24).tmps (t4 0 (ents4.take 0) 24).st :=
  body_of_check good (facts := facts) facts_ok (anns := []) (plainAnns_ok _ rfl) (nats := natl) natl_ok (n := 20000) (by kernel_rfl) rfl
set_option maxRecDepth 100000 in
theorem body4_1 : BodyOk Try.prog ann4 y4 (t4 1 (ents4.take 1) 23).less (t4 1 (ents4.take 1) 23).tmps (t4 1 (ents4.take 1) 23).st :=
  body_of_check good (facts := facts) facts_ok (anns := []) (plainAnns_ok _ rfl) (nats := natl) natl_ok (n := 20000) (by kernel_rfl) rfl
set_option maxRecDepth 100000 in
theorem body4_2 : BodyOk Try.prog ann4 y4 (t4 2 (ents4.take 2) 22).less (t4 2 (ents4.take 2) 22).tmps (t4 2 (ents4.take 2) 22).st :=
  body_of_check good (facts := facts) facts_ok (anns := []) (plainAnns_ok _ rfl) (nats := natl) natl_ok (n := 20000) (by kernel_rfl) rfl
set_option maxRecDepth 100000 in
theorem body4_3 : BodyOk Try.prog ann4 y4 (t4 3 (ents4.take 3) 21).less (t4 3 (ents4.take 3) 21).tmps (t4 3 (ents4.take 3) 21).st :=
  body_of_check good (facts := facts) facts_ok (anns := []) (plainAnns_ok _ rfl) (nats := natl) natl_ok (n := 20000) (by kernel_rfl) rfl
set_option maxRecDepth 100000 in
theorem body4_4 : BodyOk Try.prog ann4 y4 (t4 4 (ents4.take 4) 20).less (t4 4 (ents4.take 4) 20).tmps (t4 4 (ents4.take 4) 20).st :=
  body_of_check good (facts := facts) facts_ok (anns := []) (plainAnns_ok _ rfl) (nats := natl) natl_ok (n := 20000) (by kernel_rfl) rfl
set_option maxRecDepth 100000 in
theorem body4_5 : BodyOk Try.prog ann4 y4 (t4 5 (ents4.take 5) 19).less (t4 5 (ents4.take 5) 19).tmps (t4 5 (ents4.take 5) 19).st :=
  body_of_check good (facts := facts) facts_ok (anns := []) (plainAnns_ok _ rfl) (nats := natl) natl_ok (n := 20000) (by kernel_rfl) rfl
set_option maxRecDepth 100000 in
theorem body4_6 : BodyOk Try.prog ann4 y4 (t4 6 (ents4.take 6) 18).less (t4 6 (ents4.take 6) 18).tmps (t4 6 (ents4.take 6) 18).st :=
  body_of_check good (facts := facts) facts_ok (anns := []) (plainAnns_ok _ rfl) (nats := natl) natl_ok (n := 20000) (by kernel_rfl) rfl
set_option maxRecDepth 100000 in
theorem body4_7 : BodyOk Try.prog ann4 y4 (t4 7 (ents4.take 7) 17).less (t4 7 (ents4.take 7) 17).tmps (t4 7 (ents4.take 7) 17).st :=
  body_of_check good (facts := facts) facts_ok (anns := []) (plainAnns_ok _ rfl) (nats := natl) natl_ok (n := 20000) (by kernel_rfl) rfl
set_option maxRecDepth 100000 in
theorem body4_8 : BodyOk Try.prog ann4 y4 (t4 8 (ents4.take 8) 16).less (t4 8 (ents4.take 8) 16).tmps (t4 8 (ents4.take 8) 16).st :=
  body_of_check good (facts := facts) facts_ok (anns := []) (plainAnns_ok _ rfl) (nats := natl) natl_ok (n := 20000) (by kernel_rfl) rfl
set_option maxRecDepth 100000 in
theorem body4_9 : BodyOk Try.prog ann4 y4 (t4 9 (ents4.take 9) 15).less (t4 9 (ents4.take 9) 15).tmps (t4 9 (ents4.take 9) 15).st :=
  body_of_check good (facts := facts) facts_ok (anns := []) (plainAnns_ok _ rfl) (nats := natl) natl_ok (n := 20000) (by kernel_rfl) rfl
set_option maxRecDepth 100000 in
theorem body4_10 : BodyOk Try.prog ann4 y4 (t4 10 (ents4.take 10) 14).less (t4 10 (ents4.take 10) 14).tmps (t4 10 (ents4.take 10) 14).st :=
  body_of_check good (facts := facts) facts_ok (anns := []) (plainAnns_ok _ rfl) (nats := natl) natl_ok (n := 20000) (by kernel_rfl) rfl
set_option maxRecDepth 100000 in
theorem body4_11 : BodyOk Try.prog ann4 y4 (t4 11 (ents4.take 11) 13).less (t4 11 (ents4.take 11) 13).tmps (t4 11 (ents4.take 11) 13).st :=
  body_of_check good (facts := facts) facts_ok (anns := []) (plainAnns_ok _ rfl) (nats := natl) natl_ok (n := 20000) (by kernel_rfl) rfl
set_option maxRecDepth 100000 in
theorem body4_12 : BodyOk Try.prog ann4 y4 (t4 12 (ents4.take 12) 12).less (t4 12 (ents4.take 12) 12).tmps (t4 12 (ents4.take 12) 12).st :=
  body_of_check good (facts := facts) facts_ok (anns := []) (plainAnns_ok _ rfl) (nats := natl) natl_ok (n := 20000) (by kernel_rfl) rfl
set_option maxRecDepth 100000 in
theorem body4_13 : BodyOk Try.prog ann4 y4 (t4 13 (ents4.take 13) 11).less (t4 13 (ents4.take 13) 11).tmps (t4 13 (ents4.take 13) 11).st :=
  body_of_check good (facts := facts) facts_ok (anns := []) (plainAnns_ok _ rfl) (nats := natl) natl_ok (n := 20000) (by kernel_rfl) rfl
set_option maxRecDepth 100000 in
theorem body4_14 : BodyOk Try.prog ann4 y4 (t4 14 (ents4.take 14) 10).less (t4 14 (ents4.take 14) 10).tmps (t4 14 (ents4.take 14) 10).st :=
  body_of_check good (facts := facts) facts_ok (anns := []) (plainAnns_ok _ rfl) (nats := natl) natl_ok (n := 20000) (by kernel_rfl) rfl
set_option maxRecDepth 100000 in
theorem body4_15 : BodyOk Try.prog ann4 y4 (t4 15 (ents4.take 15) 9).less (t4 15 (ents4.take 15) 9).tmps (t4 15 (ents4.take 15) 9).st :=
  body_of_check good (facts := facts) facts_ok (anns := []) (plainAnns_ok _ rfl) (nats := natl) natl_ok (n := 20000) (by kernel_rfl) rfl
set_option maxRecDepth 100000 in
theorem body4_16 : BodyOk Try.prog ann4 y4 (t4 16 (ents4.take 16) 8).less (t4 16 (ents4.take 16) 8).tmps (t4 16 (ents4.take 16) 8).st :=
  body_of_check good (facts := facts) facts_ok (anns := []) (plainAnns_ok _ rfl) (nats := natl) natl_ok (n := 20000) (by kernel_rfl) rfl
set_option maxRecDepth 100000 in
theorem body4_17 : BodyOk Try.prog ann4 y4 (t4 17 (ents4.take 17) 7).less (t4 17 (ents4.take 17) 7).tmps (t4 17 (ents4.take 17) 7).st :=
  body_of_check good (facts := facts) facts_ok (anns := []) (plainAnns_ok _ rfl) (nats := natl) natl_ok (n := 20000) (by kernel_rfl) rfl
set_option maxRecDepth 100000 in
theorem body4_18 : BodyOk Try.prog ann4 y4 (t4 18 (ents4.take 18) 6).less (t4 18 (ents4.take 18) 6).tmps (t4 18 (ents4.take 18) 6).st :=
  body_of_check good (facts := facts) facts_ok (anns := []) (plainAnns_ok _ rfl) (nats := natl) natl_ok (n := 20000) (by kernel_rfl) rfl
set_option maxRecDepth 100000 in
theorem body4_19 : BodyOk Try.prog ann4 y4 (t4 19 (ents4.take 19) 5).less (t4 19 (ents4.take 19) 5).tmps (t4 19 (ents4.take 19) 5).st :=
  body_of_check good (facts := facts) facts_ok (anns := []) (plainAnns_ok _ rfl) (nats := natl) natl_ok (n := 20000) (by kernel_rfl) rfl
set_option maxRecDepth 100000 in
theorem body4_20 : BodyOk Try.prog ann4 y4 (t4 20 (ents4.take 20) 4).less (t4 20 (ents4.take 20) 4).tmps (t4 20 (ents4.take 20) 4).st :=
  body_of_check good (facts := facts) facts_ok (anns := []) (plainAnns_ok _ rfl) (nats := natl) natl_ok (n := 20000) (by kernel_rfl) rfl
set_option maxRecDepth 100000 in
theorem body4_21 : BodyOk Try.prog ann4 y4 (t4 21 (ents4.take 21) 3).less (t4 21 (ents4.take 21) 3).tmps (t4 21 (ents4.take 21) 3).st :=
  body_of_check good (facts := facts) facts_ok (anns := []) (plainAnns_ok _ rfl) (nats := natl) natl_ok (n := 20000) (by kernel_rfl) rfl
set_option maxRecDepth 100000 in
theorem body4_22 : BodyOk Try.prog ann4 y4 (t4 22 (ents4.take 22) 2).less (t4 22 (ents4.take 22) 2).tmps (t4 22 (ents4.take 22) 2).st :=
  body_of_check good (facts := facts) facts_ok (anns := []) (plainAnns_ok _ rfl) (nats := natl) natl_ok (n := 20000) (by kernel_rfl) rfl
set_option maxRecDepth 100000 in
theorem body4_23 : BodyOk Try.prog ann4 y4 (t4 23 (ents4.take 23) 1).less (t4 23 (ents4.take 23) 1).tmps (t4 23 (ents4.take 23) 1).st :=
  body_of_check good (facts := facts) facts_ok (anns := []) (plainAnns_ok _ rfl) (nats := natl) natl_ok (n := 20000) (by kernel_rfl) rfl
set_option maxRecDepth 100000 in
theorem body4_24 : BodyOk Try.prog ann4 y4 (t4 24 (ents4.take 24) 0).less (t4 24 (ents4.take 24) 0).tmps (t4 24 (ents4.take 24) 0).st :=
  body_of_check good (facts := facts) facts_ok (anns := []) (plainAnns_ok _ rfl) (nats := natl) natl_ok (n := 20000) (by kernel_rfl) rfl
theorem mem4 {p : Tmpl → Prop} (h : ∀ n, n ≤ 24 → p (t4 n (ents4.take n) (.ofNat (24 - n)))) : ∀ τ ∈ ts4, p τ := by
  have key : ∀ (k n : Nat), n + k = 25 → ∀ τ ∈ tsGo4 k n, p τ := by
    intro k
    induction k with
    | zero => intro n _ τ hτ; cases hτ
    | succ k ih =>
      intro n hn τ hτ
      rcases List.mem_cons.1 hτ with rfl | hτ
      · have := h n (by omega)
        rwa [show 24 - n = k from by omega] at this
      · exact ih (n + 1) (by omega) τ hτ
  exact key 25 0 rfl
theorem loop4 : LoopOk Try.prog ann4 := loop_of_bodies rfl rfl (mem4 (fun n hn => by
  match n, hn with
  | 0, _ => exact body4_0
  | 1, _ => exact body4_1
  | 2, _ => exact body4_2
  | 3, _ => exact body4_3
  | 4, _ => exact body4_4
  | 5, _ => exact body4_5
  | 6, _ => exact body4_6
  | 7, _ => exact body4_7
  | 8, _ => exact body4_8
  | 9, _ => exact body4_9
  | 10, _ => exact body4_10
  | 11, _ => exact body4_11
  | 12, _ => exact body4_12
  | 13, _ => exact body4_13
  | 14, _ => exact body4_14
  | 15, _ => exact body4_15
  | 16, _ => exact body4_16
  | 17, _ => exact body4_17
  | 18, _ => exact body4_18
  | 19, _ => exact body4_19
  | 20, _ => exact body4_20
  | 21, _ => exact body4_21
  | 22, _ => exact body4_22
  | 23, _ => exact body4_23
  | 24, _ => exact body4_24
  | n + 25, hn => exact absurd hn (by omega)))

end Go.Proofs.Ytmcifbikfjmmfaa.drawsOrders

/-
  Lists of zeros, as the executor speaks of them.
-/
import Derived.Test.YtmcifbikfjmmfaaSXd
set_option linter.unusedVariables false
set_option linter.unusedSimpArgs false
namespace Go.SX
/-! ### Lists of zeros -/
def zerL (l : List U) (n : Int) : Bool := l.length == n.toNat && l.all isZ
theorem isZ_eq {u : U} (h : isZ u = true) : u = .int 0 := by
  cases u with
  | int n => simp only [isZ, beq_iff_eq] at h; rw [h]
  | _ => simp [isZ] at h
theorem zerL_get {l : List U} {n : Int} (h : zerL l n = true) (i : Nat) : l.getD i (.int 0) = .int 0 := by
  simp only [zerL, Bool.and_eq_true, List.all_eq_true] at h
  by_cases hi : i < l.length
  · have := h.2 (l[i]) (List.getElem_mem hi)
    simp only [List.getD_eq_getElem?_getD, List.getElem?_eq_getElem hi, Option.getD_some]
    exact isZ_eq this
  · simp only [List.getD_eq_getElem?_getD, List.getElem?_eq_none (Nat.le_of_not_lt hi), Option.getD_none]
theorem zerL_set {l : List U} {n : Int} (h : zerL l n = true) (i : Nat) {u : U} (hu : u = .int 0) : zerL (l.set i u) n = true := by
  subst hu
  simp only [zerL, Bool.and_eq_true, List.all_eq_true, List.length_set] at h ⊢
  refine ⟨h.1, fun x hx => ?_⟩
  rcases List.mem_or_eq_of_mem_set hx with hm | rfl
  · exact h.2 x hm
  · rfl
theorem zerL_rep (n : Int) : zerL (List.replicate n.toNat (.int 0)) n = true := by
  simp only [zerL, List.length_replicate, beq_self_eq_true, Bool.true_and, List.all_eq_true]
  intro x hx
  rw [List.eq_of_mem_replicate hx]; rfl
variable {ρ : Env} {v n i w : E}
theorem dz100 : E.B ρ (.fn 100 (.pr v n)) = zerL (E.L ρ v) (E.I ρ n) := rfl
theorem dz1 : E.I ρ (.fn 1 (.pr v i)) = ((E.L ρ v).getD (E.I ρ i).toNat (.int 0)).toI := rfl
theorem dz1d : E.den ρ (.fn 1 (.pr v i)) = (E.L ρ v).getD (E.I ρ i).toNat (.int 0) := rfl
theorem dz2 : E.L ρ (.fn 2 (.pr v (.pr i w))) = (E.L ρ v).set (E.I ρ i).toNat (E.den ρ w) := rfl
theorem dz5 : E.L ρ (.fn 5 (.pr n (.int 0))) = List.replicate (E.I ρ n).toNat (.int 0) := rfl
theorem cs_u64 (x : Int) : ∃ s, IntKind.u64.wrap x = s ∧ (0 ≤ s ∧ s < 18446744073709551616) ∧ (0 ≤ x → x < 18446744073709551616 → s = x) := by
  refine ⟨IntKind.u64.wrap x, rfl, ?_, ?_⟩ <;> simp [IntKind.wrap, IntKind.signed, IntKind.bits] <;> omega
theorem cs_rem (a b : Int) : ∃ r, a.tmod b = r ∧ (0 ≤ a → 0 < b → 0 ≤ r ∧ r < b) :=
  ⟨a.tmod b, rfl, fun ha hb => ⟨Int.tmod_nonneg _ ha, Int.tmod_lt_of_pos _ hb⟩⟩
end Go.SX

/-
  Lists of games of which the first ones are alike, as the executor speaks of them.
-/
import Derived.Test.YtmngplmblanhdaaSXd
set_option linter.unusedVariables false
set_option linter.unusedSimpArgs false
namespace Go.SX
/-! ### Lists of games of which the first ones are alike -/
theorem isI_eq {n : Int} {u : U} (h : isI n u = true) : u.toI = n := by
  cases u with
  | int m => simpa [isI, U.toI] using h
  | _ => simp [isI] at h
theorem rowsChk_get (a : Int) : ∀ (i : Nat) (l : List U), rowsChk a i l = true → ∀ k, k < i → (l.getD (3 * k) (.int 0)).toI = a ∧ (l.getD (3 * k + 1) (.int 0)).toI = 1 - a ∧ (l.getD (3 * k + 2) (.int 0)).toI = 1
  | 0, _, _, k, h => by omega
  | i + 1, x :: y :: z :: r, h, k, hk => by
    simp only [rowsChk, Bool.and_eq_true] at h
    obtain ⟨⟨⟨h1, h2⟩, h3⟩, h4⟩ := h
    cases k with
    | zero => exact ⟨isI_eq h1, isI_eq h2, isI_eq h3⟩
    | succ k =>
      have := rowsChk_get a i r h4 k (by omega)
      have e : 3 * (k + 1) = 3 * k + 3 := by omega
      simpa [e, List.getD_cons_succ] using this
  | i + 1, [], h, _, _ => by simp [rowsChk] at h
  | i + 1, [_], h, _, _ => by simp [rowsChk] at h
  | i + 1, [_, _], h, _, _ => by simp [rowsChk] at h
theorem rowsChk_set (a : Int) : ∀ (i : Nat) (l : List U), rowsChk a i l = true → 3 * i + 2 < l.length → rowsChk a (i + 1) (((l.set (3 * i) (.int a)).set (3 * i + 1) (.int (1 - a))).set (3 * i + 2) (.int 1)) = true
  | 0, x :: y :: z :: r, _, _ => by simp [rowsChk, isI]
  | 0, [], _, h => by simp at h
  | 0, [_], _, h => by simp at h
  | 0, [_, _], _, h => by simp at h
  | i + 1, x :: y :: z :: r, h, hl => by
    simp only [rowsChk, Bool.and_eq_true] at h
    obtain ⟨⟨⟨h1, h2⟩, h3⟩, h4⟩ := h
    have e : 3 * (i + 1) = 3 * i + 1 + 1 + 1 := by omega
    have := rowsChk_set a i r h4 (by simp at hl; omega)
    rw [e]
    simp only [List.set_cons_succ, rowsChk, h1, h2, h3, Bool.true_and]
    exact this
  | i + 1, [], h, _ => by simp [rowsChk] at h
  | i + 1, [_], h, _ => by simp [rowsChk] at h
  | i + 1, [_, _], h, _ => by simp [rowsChk] at h
variable {ρ : Env} {v i j n k m : E} {a : Int}
theorem d100 : E.B ρ (.fn 100 (.pr v (.pr i (.pr n (.int a))))) = ((E.L ρ v).length == 3 * (E.I ρ n).toNat && rowsChk a (E.I ρ i).toNat (E.L ρ v)) := rfl
theorem rows_get (h : E.B ρ (.fn 100 (.pr v (.pr i (.pr n (.int a))))) = true) (k : E) : 0 ≤ E.I ρ k → E.I ρ k < E.I ρ i →
    E.I ρ (.fn 1 (.pr v (.fn 6 (.pr (.fn 8 (.pr k (.int 3))) (.int 0))))) = a ∧ E.I ρ (.fn 1 (.pr v (.fn 6 (.pr (.fn 8 (.pr k (.int 3))) (.int 1))))) = 1 - a ∧ E.I ρ (.fn 1 (.pr v (.fn 6 (.pr (.fn 8 (.pr k (.int 3))) (.int 2))))) = 1 := by
  intro h1 h2
  rw [d100, Bool.and_eq_true] at h
  obtain ⟨g1, g2, g3⟩ := rowsChk_get a _ _ h.2 (E.I ρ k).toNat (by omega)
  have e : ∀ c : Nat, E.I ρ (.fn 1 (.pr v (.fn 6 (.pr (.fn 8 (.pr k (.int 3))) (.int c))))) = ((E.L ρ v).getD (3 * (E.I ρ k).toNat + c) (.int 0)).toI := by
    intro c
    show ((E.L ρ v).getD (E.I ρ k * 3 + c).toNat (.int 0)).toI = _
    congr 2
    omega
  exact ⟨(e 0).trans g1, (e 1).trans g2, (e 2).trans g3⟩
theorem rows_congr (h : E.B ρ (.fn 100 (.pr v (.pr i (.pr n (.int a))))) = true) (e : E.I ρ i = E.I ρ j) : E.B ρ (.fn 100 (.pr v (.pr j (.pr n (.int a))))) = true := by
  rw [d100] at h ⊢; rw [← e]; exact h
theorem rows_zero : E.B ρ (.fn 100 (.pr (.fn 17 (.pr n (.fn 23 (.pr (.int 0) (.fn 23 (.pr (.int 0) (.fn 23 (.pr (.int 0) (.fn 10 (.int 0)))))))))) (.pr (.int 0) (.pr n (.int a))))) = true := by
  rw [d100]
  have e : E.L ρ (.fn 17 (.pr n (.fn 23 (.pr (.int 0) (.fn 23 (.pr (.int 0) (.fn 23 (.pr (.int 0) (.fn 10 (.int 0)))))))))) = (List.replicate (E.I ρ n).toNat [U.int 0, U.int 0, U.int 0]).flatten := rfl
  rw [e]
  simp [rowsChk, E.I, E.den, U.toI, Nat.mul_comm]
theorem rows_set {b : Int} (h : E.B ρ (.fn 100 (.pr v (.pr i (.pr n (.int a))))) = true) (h0 : 0 ≤ E.I ρ i) (hn : E.I ρ i < E.I ρ n) (hb : b = 1 - a) (hj : E.I ρ j = E.I ρ i + 1) :
    E.B ρ (.fn 100 (.pr (.fn 2 (.pr (.fn 2 (.pr (.fn 2 (.pr v (.pr (.fn 6 (.pr (.fn 8 (.pr i (.int 3))) (.int 0))) (.int a)))) (.pr (.fn 6 (.pr (.fn 8 (.pr i (.int 3))) (.int 1))) (.int b)))) (.pr (.fn 6 (.pr (.fn 8 (.pr i (.int 3))) (.int 2))) (.int 1)))) (.pr j (.pr n (.int a))))) = true := by
  rw [d100, Bool.and_eq_true] at h
  obtain ⟨h1, h2⟩ := h
  simp only [beq_iff_eq] at h1
  subst hb
  rw [d100]
  have e : ∀ c : Nat, (E.I ρ i * 3 + c).toNat = 3 * (E.I ρ i).toNat + c := by intro c; omega
  have e0 := e 0
  have e1 := e 1
  have e2 := e 2
  have el : E.L ρ (.fn 2 (.pr (.fn 2 (.pr (.fn 2 (.pr v (.pr (.fn 6 (.pr (.fn 8 (.pr i (.int 3))) (.int 0))) (.int a)))) (.pr (.fn 6 (.pr (.fn 8 (.pr i (.int 3))) (.int 1))) (.int (1 - a))))) (.pr (.fn 6 (.pr (.fn 8 (.pr i (.int 3))) (.int 2))) (.int 1)))) =
      (((E.L ρ v).set (E.I ρ i * 3 + (0 : Nat)).toNat (.int a)).set (E.I ρ i * 3 + (1 : Nat)).toNat (.int (1 - a))).set (E.I ρ i * 3 + (2 : Nat)).toNat (.int 1) := rfl
  rw [el, e0, e1, e2, Nat.add_zero, hj]
  have hi : (E.I ρ i + 1).toNat = (E.I ρ i).toNat + 1 := by omega
  rw [hi, rowsChk_set a _ _ h2 (by omega)]
  simp [h1]
theorem wr64 {x : Int} (h0 : -9223372036854775808 ≤ x) (h1 : x < 9223372036854775808) : IntKind.i64.wrap x = x := by
  obtain ⟨s, e, _, h⟩ := cs_i64 x
  rw [e]; exact h h0 h1
theorem quo_a {s : Int} (h : 0 < s) (h2 : s ≤ 200000) : IntKind.i64.wrap ((IntKind.i64.wrap (1000 * s)).tdiv (IntKind.i64.wrap (s + 0))) = 1000 := by
  rw [wr64 (x := 1000 * s) (by omega) (by omega), wr64 (x := s + 0) (by omega) (by omega), Int.add_zero, Int.mul_tdiv_cancel _ (by omega)]
  rfl
theorem quo_b {s t x y : Int} (hs : s = x * 2) (ht : t = y * 2) (h1 : 0 < x) (h2 : x ≤ 100000) (h3 : 0 < y) (h4 : y ≤ 100000) :
    IntKind.i64.wrap ((IntKind.i64.wrap (1000 * s)).tdiv (IntKind.i64.wrap (s + t))) = IntKind.i64.wrap ((IntKind.i64.wrap (1000 * x)).tdiv (IntKind.i64.wrap (x + y))) := by
  subst hs; subst ht
  rw [wr64 (x := 1000 * (x * 2)) (by omega) (by omega), wr64 (x := x * 2 + y * 2) (by omega) (by omega), wr64 (x := 1000 * x) (by omega) (by omega), wr64 (x := x + y) (by omega) (by omega)]
  have e1 : 1000 * (x * 2) = 2 * (1000 * x) := by omega
  have e2 : x * 2 + y * 2 = 2 * (x + y) := by omega
  rw [e1, e2, Int.mul_tdiv_mul_of_pos _ _ (by omega)]
theorem sm_I_quo_i64 (a b : E) : (E.ar .quo .i64 a b).I ρ = IntKind.i64.wrap ((a.I ρ).tdiv (b.I ρ)) := rfl
end Go.SX


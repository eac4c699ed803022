/-
  Draws: shuffles, picks and maps that count.
-/
import Derived.Test.YtmcifbikfjmmfaaSXe
set_option linter.unusedVariables false
set_option linter.unusedSimpArgs false
namespace Go.SX
/-! ### Draws: lists of numbers, and what is left of them -/
noncomputable def ints (ρ : Env) (e : E) : List Int := (E.L ρ e).map U.toI
theorem cs_u64 (x : Int) : ∃ s, IntKind.u64.wrap x = s ∧ (0 ≤ s ∧ s < 18446744073709551616) ∧ (0 ≤ x → x < 18446744073709551616 → s = x) := by
  refine ⟨_, rfl, ?_, ?_⟩ <;> simp only [IntKind.wrap, IntKind.bits, IntKind.signed, Bool.false_and] <;> simp_all <;> omega
theorem cs_rem (a b : Int) : ∃ r, a.tmod b = r ∧ (0 ≤ a → 0 < b → 0 ≤ r ∧ r < b ∧ r ≤ a) :=
  ⟨a.tmod b, rfl, fun ha hb => ⟨Int.tmod_nonneg _ ha, Int.tmod_lt_of_pos _ hb, by
    rw [Int.tmod_eq_emod_of_nonneg ha]
    have h1 := Int.emod_add_mul_ediv a b
    have h2 : 0 ≤ a / b := Int.ediv_nonneg ha (by omega)
    have h3 : 0 ≤ b * (a / b) := Int.mul_nonneg (by omega) h2
    omega⟩⟩
section
variable {ρ : Env} {x y l A a b k u i j p q n m r o c d w v : E}
theorem ints_len : ((ints ρ l).length : Int) = E.I ρ (.fn 0 l) := by
  show (((E.L ρ l).map U.toI).length : Int) = ((E.L ρ l).length : Int)
  simp
theorem getD_map (l : List U) (k : Nat) : (l.getD k (.int 0)).toI = (l.map U.toI).getD k 0 := by
  simp only [List.getD_eq_getElem?_getD, List.getElem?_map]
  cases l[k]? <;> rfl
theorem I_nth : E.I ρ (.fn 1 (.pr l i)) = (ints ρ l).getD (E.I ρ i).toNat 0 := getD_map _ _
theorem ints_nil : ints ρ (.fn 10 a) = [] := rfl
theorem ints_sub : ints ρ (.fn 4 (.pr l (.pr a b))) = ((ints ρ l).take (E.I ρ b).toNat).drop (E.I ρ a).toNat := by
  show (((E.L ρ l).take _).drop _).map U.toI = _
  rw [List.map_drop, List.map_take]; rfl
theorem ints_cut : ints ρ (.fn 24 (.pr (.pr w l) (.pr a (.pr b c)))) = ((ints ρ l).take ((E.I ρ b).toNat * (E.I ρ w).toNat)).drop ((E.I ρ a).toNat * (E.I ρ w).toNat) := by
  show (((E.L ρ l).take _).drop _).map U.toI = _
  rw [List.map_drop, List.map_take]; rfl
theorem ints_set : ints ρ (.fn 2 (.pr l (.pr i v))) = (ints ρ l).set (E.I ρ i).toNat (E.I ρ v) := by
  show ((E.L ρ l).set _ _).map U.toI = _
  rw [List.map_set]; rfl
theorem z101 : (E.B ρ (.fn 101 (.pr x (.pr l (.pr A u)))) = true) = (ints ρ x = shufM (ints ρ l) ((ints ρ A).drop (E.I ρ u).toNat)) := by
  show ((ints ρ x == shufM (ints ρ l) ((ints ρ A).drop (E.I ρ u).toNat)) = true) = _
  simp
theorem z106 : (E.B ρ (.fn 106 (.pr x y)) = true) = (ints ρ x = ints ρ y) := by
  show ((ints ρ x == ints ρ y) = true) = _
  simp
theorem z111 : (E.B ρ (.fn 111 (.pr x (.pr l u))) = true) = (ints ρ x = (ints ρ l).drop (E.I ρ u).toNat) := by
  show ((ints ρ x == (ints ρ l).drop (E.I ρ u).toNat) = true) = _
  simp
theorem z120 : (E.B ρ (.fn 120 (.pr x (.pr l (.pr i (.pr A (.pr u p)))))) = true) = ((ints ρ x).length = (ints ρ l).length ∧ shufGo (E.I ρ i).toNat (ints ρ x) ((ints ρ A).drop (E.I ρ p).toNat) = shufM (ints ρ l) ((ints ρ A).drop (E.I ρ u).toNat)) := by
  show (((ints ρ x).length == (ints ρ l).length && shufGo (E.I ρ i).toNat (ints ρ x) ((ints ρ A).drop (E.I ρ p).toNat) == shufM (ints ρ l) ((ints ρ A).drop (E.I ρ u).toNat)) = true) = _
  simp
theorem z131 : (E.B ρ (.fn 131 x) = true) = (∀ q ∈ ints ρ x, 0 ≤ q ∧ q < 18446744073709551616) := by
  show ((ints ρ x).all (fun q => decide (0 ≤ q ∧ q < 18446744073709551616)) = true) = _
  simp [List.all_eq_true]
theorem t111_len (h : E.B ρ (.fn 111 (.pr x (.pr l u))) = true) : E.I ρ (.fn 0 x) = max (E.I ρ (.fn 0 l) - max (E.I ρ u) 0) 0 := by
  rw [z111] at h
  rw [← ints_len, ← ints_len, h, List.length_drop]; omega
theorem t131_drop (h : E.B ρ (.fn 111 (.pr x (.pr l u))) = true) (h' : E.B ρ (.fn 131 l) = true) : E.B ρ (.fn 131 x) = true := by
  rw [z111] at h; rw [z131] at h' ⊢
  intro q hq; rw [h] at hq; exact h' q (List.mem_of_mem_drop hq)
theorem t131_nth (h : E.B ρ (.fn 131 l) = true) (i : E) : 0 ≤ E.I ρ (.fn 1 (.pr l i)) ∧ E.I ρ (.fn 1 (.pr l i)) < 18446744073709551616 := by
  rw [z131] at h; rw [I_nth, List.getD_eq_getElem?_getD]
  cases hc : (ints ρ l)[(E.I ρ i).toNat]? with
  | none => simp
  | some v => exact h v (List.mem_of_getElem? hc)
theorem ints_zero (h : E.I ρ (.fn 0 x) = 0) : ints ρ x = [] := by
  rw [← ints_len] at h; exact List.length_eq_zero_iff.1 (by omega)
theorem t131_nil (h : E.I ρ (.fn 0 x) = 0) : E.B ρ (.fn 131 x) = true := by
  rw [z131, ints_zero h]; intro q hq; cases hq
theorem t131_typ (h : E.B ρ (.fn 27 (.pr (.fn 23 (.pr (.int 7) (.fn 10 (.int 0)))) x)) = true) : E.B ρ (.fn 131 x) = true := by
  have h' : U.typs (E.L ρ x) [.int 7] ([U.int 7].drop 1) = true := h
  rw [z131]
  intro q hq
  obtain ⟨u, hu, rfl⟩ := List.mem_map.1 hq
  obtain ⟨n, hn⟩ := List.getElem?_of_mem hu
  obtain ⟨k, hk, ht⟩ := typs_get (ks := [.int 7]) (E.L ρ x) 1 (Nat.le_refl 1) h' n u hn
  have hk7 : k = .int 7 := by
    simp only [List.length_singleton, Nat.mod_one] at hk
    simpa using hk.symm
  subst hk7
  cases u <;> simp_all [U.typ, kindLo, kindHi, U.toI]
  omega
theorem t111_self (h : E.I ρ u ≤ 0) : E.B ρ (.fn 111 (.pr x (.pr x u))) = true := by
  rw [z111]
  have : (E.I ρ u).toNat = 0 := by omega
  rw [this]; rfl
theorem t111_nil (h : E.I ρ (.fn 0 x) = 0) (h' : E.I ρ (.fn 0 y) = 0) : E.B ρ (.fn 111 (.pr x (.pr y u))) = true := by
  rw [z111, ints_zero h, ints_zero h']; simp
theorem t111_trans (h : E.B ρ (.fn 111 (.pr x (.pr y a))) = true) (h' : E.B ρ (.fn 111 (.pr y (.pr l b))) = true) (ha : 0 ≤ E.I ρ a) (hb : 0 ≤ E.I ρ b) (hc : E.I ρ c = E.I ρ b + E.I ρ a) : E.B ρ (.fn 111 (.pr x (.pr l c))) = true := by
  rw [z111] at *
  rw [h, h', List.drop_drop]
  congr 1; omega
theorem t111_eq (h : E.B ρ (.fn 111 (.pr x (.pr l a))) = true) (hc : E.I ρ c = E.I ρ a) : E.B ρ (.fn 111 (.pr x (.pr l c))) = true := by
  rw [z111] at *; rw [hc]; exact h
theorem t111_cut : E.B ρ (.fn 111 (.pr (.fn 24 (.pr (.pr (.int 1) x) (.pr (.int 1) (.pr (.fn 0 x) c)))) (.pr x (.int 1)))) = true := by
  rw [z111, ints_cut]
  have e : (E.I ρ (.fn 0 x)).toNat = (ints ρ x).length := by rw [← ints_len]; omega
  have e1 : (E.I ρ (.int 1)).toNat = 1 := rfl
  rw [e, e1, Nat.mul_one, Nat.mul_one, List.take_length]
theorem t106_sub (h : E.B ρ (.fn 111 (.pr x (.pr l u))) = true) (hn : E.I ρ n = E.I ρ (.fn 0 l)) (hu : E.I ρ a = E.I ρ u) : E.B ρ (.fn 106 (.pr (.fn 4 (.pr l (.pr a n))) x)) = true := by
  rw [z111] at h; rw [z106, ints_sub, h, hu]
  have e : (E.I ρ n).toNat = (ints ρ l).length := by rw [hn, ← ints_len]; omega
  rw [e, List.take_length]
theorem t106_nil (h : E.I ρ (.fn 0 x) = 0) : E.B ρ (.fn 106 (.pr (.fn 10 a) x)) = true := by
  rw [z106, ints_nil, ints_zero h]
theorem I_sublen : E.I ρ (.fn 0 (.fn 4 (.pr l (.pr a b)))) = max (min (max (E.I ρ b) 0) (E.I ρ (.fn 0 l)) - max (E.I ρ a) 0) 0 := by
  rw [← ints_len, ← ints_len, ints_sub, List.length_drop, List.length_take]; omega
theorem nth_drop (h : E.B ρ (.fn 111 (.pr x (.pr l u))) = true) (hi : 0 ≤ E.I ρ i) (hu : 0 ≤ E.I ρ u) (hj : E.I ρ j = E.I ρ u + E.I ρ i) : E.I ρ (.fn 1 (.pr x i)) = E.I ρ (.fn 1 (.pr l j)) := by
  rw [z111] at h
  rw [I_nth, I_nth, h]
  simp only [List.getD_eq_getElem?_getD, List.getElem?_drop]
  congr 2; omega
/-! the shuffle -/
theorem t120_start (hi : E.I ρ i = E.I ρ (.fn 0 x) - 1) (hp : E.I ρ p = E.I ρ u) : E.B ρ (.fn 120 (.pr x (.pr x (.pr i (.pr A (.pr u p)))))) = true := by
  rw [z120]
  refine ⟨rfl, ?_⟩
  rw [hp]; unfold shufM
  have e : (E.I ρ i).toNat = (ints ρ x).length - 1 := by rw [hi, ← ints_len]; omega
  rw [e]
theorem t120_end (h : E.B ρ (.fn 120 (.pr x (.pr l (.pr i (.pr A (.pr u p)))))) = true) (hi : E.I ρ i ≤ 0) : E.B ρ (.fn 101 (.pr x (.pr l (.pr A u)))) = true := by
  rw [z120] at h; rw [z101]
  have e : (E.I ρ i).toNat = 0 := by omega
  rw [e] at h; rw [← h.2]; rfl
theorem drop_cons {l : List Int} {k : Nat} (h : k < l.length) : l.drop k = l.getD k 0 :: l.drop (k + 1) := by
  rw [List.drop_eq_getElem_cons h, List.getD_eq_getElem?_getD, List.getElem?_eq_getElem h, Option.getD_some]
theorem t120_step {i' p' : E} (h : E.B ρ (.fn 120 (.pr x (.pr l (.pr i (.pr A (.pr u p)))))) = true) (h0 : 0 < E.I ρ i) (hp : 0 ≤ E.I ρ p) (hA : E.I ρ p < E.I ρ (.fn 0 A))
    (hj : E.I ρ j = Int.tmod (E.I ρ (.fn 1 (.pr A p))) (E.I ρ i + 1)) (hi : E.I ρ i' = E.I ρ i - 1) (hq : E.I ρ p' = E.I ρ p + 1) :
    E.B ρ (.fn 120 (.pr (.fn 2 (.pr (.fn 2 (.pr x (.pr i (.fn 1 (.pr x j))))) (.pr j (.fn 1 (.pr x i))))) (.pr l (.pr i' (.pr A (.pr u p')))))) = true := by
  rw [z120] at h ⊢
  obtain ⟨h1, h2⟩ := h
  have es : ints ρ (.fn 2 (.pr (.fn 2 (.pr x (.pr i (.fn 1 (.pr x j))))) (.pr j (.fn 1 (.pr x i))))) = swapM (ints ρ x) (E.I ρ i).toNat (E.I ρ j).toNat := by
    rw [ints_set, ints_set, I_nth, I_nth]; rfl
  rw [es]
  refine ⟨by simp [swapM, h1], ?_⟩
  rw [← h2]
  obtain ⟨k, hk⟩ : ∃ k : Nat, E.I ρ i = k + 1 := ⟨(E.I ρ i - 1).toNat, by omega⟩
  have e1 : (E.I ρ i).toNat = k + 1 := by omega
  have e2 : (E.I ρ i').toNat = k := by omega
  have e3 : (E.I ρ p').toNat = (E.I ρ p).toNat + 1 := by omega
  have hA' : (E.I ρ p).toNat < (ints ρ A).length := by rw [← ints_len] at hA; omega
  rw [e1, e2, e3, drop_cons hA']
  simp only [shufGo, List.headD_cons, List.tail_cons]
  rw [hj, I_nth, hk]
  congr 4
end
/-! calls that are not too great -/
theorem smallA_step : ∀ (k : Nat) (l : List U), smallA k l = true → 4 * k + 4 ≤ l.length → (l.getD (4 * k + 3) (.int 0)).toL.length ≤ 60 →
    ¬ ((l.getD (4 * k) (.int 0)).toI = 2 ∧ 300 < (l.getD (4 * k + 1) (.int 0)).toI ∧ (l.getD (4 * k + 1) (.int 0)).toI ≤ 65536) → smallA (k + 1) l = true
  | 0, l, _, hl, h3, h2 => by
    match l, hl with
    | w :: n :: m :: q :: r, _ =>
      simp only [List.getD_cons_zero, List.getD_cons_succ, Nat.mul_zero, Nat.zero_add] at h3 h2
      simp only [smallA, Bool.and_eq_true, decide_eq_true_eq, Bool.not_eq_true', Bool.and_true]
      refine ⟨h3, ?_⟩
      simp only [Bool.and_eq_false_iff, beq_eq_false_iff_ne, decide_eq_false_iff_not]
      omega
  | k + 1, l, h, hl, h3, h2 => by
    match l, hl with
    | w :: n :: m :: q :: r, hl =>
      have e3 : 4 * (k + 1) + 3 = 4 * k + 3 + 1 + 1 + 1 + 1 := by omega
      have e1 : 4 * (k + 1) + 1 = 4 * k + 1 + 1 + 1 + 1 + 1 := by omega
      have e0 : 4 * (k + 1) = 4 * k + 1 + 1 + 1 + 1 := by omega
      rw [e3, e1, e0] at *
      simp only [List.getD_cons_succ] at h3 h2
      simp only [smallA, Bool.and_eq_true] at h ⊢
      refine ⟨h.1, ?_⟩
      have := smallA_step k r h.2 (by simp only [List.length_cons] at hl; omega) h3 h2
      simpa [smallA] using this
theorem smallA_get : ∀ (k j : Nat) (l : List U), smallA k l = true → j < k → (l.getD (4 * j + 3) (.int 0)).toL.length ≤ 60 ∧
    ¬ ((l.getD (4 * j) (.int 0)).toI = 2 ∧ 300 < (l.getD (4 * j + 1) (.int 0)).toI ∧ (l.getD (4 * j + 1) (.int 0)).toI ≤ 65536)
  | 0, j, l, _, hj => by omega
  | k + 1, j, l, h, hj => by
    match l with
    | [] | [_] | [_, _] | [_, _, _] => simp [smallA] at h
    | w :: n :: m :: q :: r =>
      simp only [smallA, Bool.and_eq_true, decide_eq_true_eq, Bool.not_eq_true'] at h
      cases j with
      | zero =>
        simp only [List.getD_cons_zero, List.getD_cons_succ, Nat.mul_zero, Nat.zero_add]
        refine ⟨h.1.1, ?_⟩
        have := h.1.2
        simp only [Bool.and_eq_false_iff, beq_eq_false_iff_ne, decide_eq_false_iff_not] at this
        omega
      | succ j =>
        have e3 : 4 * (j + 1) + 3 = 4 * j + 3 + 1 + 1 + 1 + 1 := by omega
        have e1 : 4 * (j + 1) + 1 = 4 * j + 1 + 1 + 1 + 1 + 1 := by omega
        have e0 : 4 * (j + 1) = 4 * j + 1 + 1 + 1 + 1 := by omega
        rw [e3, e1, e0]
        simp only [List.getD_cons_succ]
        exact smallA_get k j r h.2 (by omega)
section
variable {ρ : Env} {x y l A a b k u i j p q n m r o c d w v : E}
theorem z130 : (E.B ρ (.fn 130 (.pr x n)) = true) = (smallA (E.I ρ n).toNat (E.L ρ x) = true) := rfl
theorem I_div4 : E.I ρ (.fn 9 (.pr x (.int 4))) = (((E.L ρ x).length / 4 : Nat) : Int) := rfl
theorem t130_zero (h : E.I ρ n ≤ 0) : E.B ρ (.fn 130 (.pr x n)) = true := by
  rw [z130]
  have : (E.I ρ n).toNat = 0 := by omega
  rw [this]; rfl
theorem t130_eq (h : E.B ρ (.fn 130 (.pr x n)) = true) (he : E.I ρ m = E.I ρ n) : E.B ρ (.fn 130 (.pr x m)) = true := by
  rw [z130] at *; rw [he]; exact h
theorem rowE {t : Int} (h0 : 0 ≤ E.I ρ i) (ht : 0 ≤ t) : (E.I ρ (.fn 6 (.pr (.fn 8 (.pr i (.int 4))) (.int t)))).toNat = 4 * (E.I ρ i).toNat + t.toNat := by
  show (E.I ρ i * 4 + t).toNat = _
  omega
theorem t130_get (h : E.B ρ (.fn 130 (.pr x n)) = true) (h0 : 0 ≤ E.I ρ i) (hn : E.I ρ i < E.I ρ n) :
    E.I ρ (.fn 0 (.fn 1 (.pr x (.fn 6 (.pr (.fn 8 (.pr i (.int 4))) (.int 3)))))) ≤ 60 ∧
    ¬ (E.I ρ (.fn 1 (.pr x (.fn 6 (.pr (.fn 8 (.pr i (.int 4))) (.int 0))))) = 2 ∧ 300 < E.I ρ (.fn 1 (.pr x (.fn 6 (.pr (.fn 8 (.pr i (.int 4))) (.int 1))))) ∧ E.I ρ (.fn 1 (.pr x (.fn 6 (.pr (.fn 8 (.pr i (.int 4))) (.int 1))))) ≤ 65536) := by
  rw [z130] at h
  have := smallA_get _ (E.I ρ i).toNat _ h (by omega)
  have e3 := rowE (t := 3) h0 (by omega)
  have e1 := rowE (t := 1) h0 (by omega)
  have e0 := rowE (t := 0) h0 (by omega)
  have f3 : E.I ρ (.fn 0 (.fn 1 (.pr x (.fn 6 (.pr (.fn 8 (.pr i (.int 4))) (.int 3)))))) = (((E.L ρ x).getD (E.I ρ (.fn 6 (.pr (.fn 8 (.pr i (.int 4))) (.int 3)))).toNat (.int 0)).toL.length : Int) := rfl
  have f (t : Int) : E.I ρ (.fn 1 (.pr x (.fn 6 (.pr (.fn 8 (.pr i (.int 4))) (.int t))))) = ((E.L ρ x).getD (E.I ρ (.fn 6 (.pr (.fn 8 (.pr i (.int 4))) (.int t)))).toNat (.int 0)).toI := rfl
  rw [f3, f, f, e3, e1, e0]
  exact ⟨by exact_mod_cast this.1, this.2⟩
theorem t130_step (h : E.B ρ (.fn 130 (.pr x i)) = true) (h0 : 0 ≤ E.I ρ i) (hn : E.I ρ i < E.I ρ (.fn 9 (.pr x (.int 4)))) (hm : E.I ρ m = E.I ρ i + 1)
    (h3 : E.I ρ (.fn 0 (.fn 1 (.pr x (.fn 6 (.pr (.fn 8 (.pr i (.int 4))) (.int 3)))))) ≤ 60)
    (h2 : ¬ (E.I ρ (.fn 1 (.pr x (.fn 6 (.pr (.fn 8 (.pr i (.int 4))) (.int 0))))) = 2 ∧ 300 < E.I ρ (.fn 1 (.pr x (.fn 6 (.pr (.fn 8 (.pr i (.int 4))) (.int 1))))) ∧ E.I ρ (.fn 1 (.pr x (.fn 6 (.pr (.fn 8 (.pr i (.int 4))) (.int 1))))) ≤ 65536)) :
    E.B ρ (.fn 130 (.pr x m)) = true := by
  rw [z130] at h ⊢
  have e3 := rowE (t := 3) h0 (by omega)
  have e1 := rowE (t := 1) h0 (by omega)
  have e0 := rowE (t := 0) h0 (by omega)
  have f3 : E.I ρ (.fn 0 (.fn 1 (.pr x (.fn 6 (.pr (.fn 8 (.pr i (.int 4))) (.int 3)))))) = (((E.L ρ x).getD (E.I ρ (.fn 6 (.pr (.fn 8 (.pr i (.int 4))) (.int 3)))).toNat (.int 0)).toL.length : Int) := rfl
  have f (t : Int) : E.I ρ (.fn 1 (.pr x (.fn 6 (.pr (.fn 8 (.pr i (.int 4))) (.int t))))) = ((E.L ρ x).getD (E.I ρ (.fn 6 (.pr (.fn 8 (.pr i (.int 4))) (.int t)))).toNat (.int 0)).toI := rfl
  rw [f3, e3] at h3
  rw [f, f, e1, e0] at h2
  rw [I_div4] at hn
  have em : (E.I ρ m).toNat = (E.I ρ i).toNat + 1 := by omega
  rw [em]
  exact smallA_step _ _ h (by omega) (by exact_mod_cast h3) h2
/-! what both shuffles give -/
theorem t106_shuf {B : E} (h : E.B ρ (.fn 101 (.pr x (.pr l (.pr A u)))) = true) (h' : E.B ρ (.fn 101 (.pr y (.pr l (.pr B (.int 0))))) = true) (hB : E.B ρ (.fn 111 (.pr B (.pr A u))) = true) : E.B ρ (.fn 106 (.pr x y)) = true := by
  rw [z101] at h h'; rw [z111] at hB; rw [z106, h, h', hB]; rfl
theorem choose_val {s bw : E} (h0 : 0 ≤ E.I ρ s) (hb : 0 < E.I ρ b) (hb2 : E.I ρ b < 9223372036854775808) (hw : E.I ρ bw = E.I ρ b) : E.I ρ (.wr .i64 (.ar .rem .u64 s (.wr .u64 bw))) = Int.tmod (E.I ρ s) (E.I ρ b) := by
  simp only [smA]
  obtain ⟨v, e1, _, q1⟩ := cs_u64 (E.I ρ bw)
  rw [e1]
  have hv : v = E.I ρ b := by rw [q1 (by omega) (by omega), hw]
  rw [hv]
  obtain ⟨r, e2, q2⟩ := cs_rem (E.I ρ s) (E.I ρ b)
  rw [e2]
  obtain ⟨z, e3, _, q3⟩ := cs_i64 r
  rw [e3]
  have := q2 h0 hb
  exact q3 (by omega) (by omega)
theorem t106_nth (h : E.B ρ (.fn 106 (.pr x y)) = true) : E.I ρ (.fn 1 (.pr x i)) = E.I ρ (.fn 1 (.pr y i)) := by
  rw [z106] at h; rw [I_nth, I_nth, h]
theorem z132 : (E.B ρ (.fn 132 (.pr m b)) = true) = (E.I ρ b < 0 ∨ 65536 < E.I ρ b ∨ E.I ρ m < 0 ∨ E.I ρ b < E.I ρ m) := by
  show (decide _ = true) = _
  simp only [decide_eq_true_eq]; rfl
theorem z133 : (E.B ρ (.fn 133 b) = true) = (E.I ρ b ≤ 300 ∨ 65536 < E.I ρ b) := by
  show (decide _ = true) = _
  simp only [decide_eq_true_eq]; rfl
theorem t132_not (h : E.B ρ (.not (.fn 132 (.pr m b))) = true) : 0 ≤ E.I ρ b ∧ E.I ρ b ≤ 65536 ∧ 0 ≤ E.I ρ m ∧ E.I ρ m ≤ E.I ρ b := by
  rw [sm_B_not, z132] at h; omega
theorem t133_of (h : E.B ρ (.fn 133 b) = true) : E.I ρ b ≤ 300 ∨ 65536 < E.I ρ b := by
  rw [z133] at h; exact h
theorem t132_yes (h : E.B ρ (.fn 132 (.pr m b)) = true) : E.I ρ b < 0 ∨ 65536 < E.I ρ b ∨ E.I ρ m < 0 ∨ E.I ρ b < E.I ρ m := by
  rw [z132] at h; exact h
theorem t106_self : E.B ρ (.fn 106 (.pr x x)) = true := by rw [z106]
end
/-! picks -/
section
variable {ρ : Env} {x y l A a b k u i j p q n m r o c d w v : E}
theorem ints_app : ints ρ (.fn 3 (.pr a b)) = ints ρ a ++ ints ρ b := by
  show ((E.L ρ a ++ E.L ρ b).map U.toI) = _
  rw [List.map_append]; rfl
theorem ints_cons : ints ρ (.fn 23 (.pr x r)) = E.I ρ x :: ints ρ r := rfl
theorem z102 : (E.B ρ (.fn 102 (.pr x (.pr m (.pr b (.pr A u))))) = true) = (ints ρ x = pickM (E.I ρ m).toNat (E.I ρ b).toNat ((ints ρ A).drop (E.I ρ u).toNat)) := by
  show ((ints ρ x == pickM (E.I ρ m).toNat (E.I ρ b).toNat ((ints ρ A).drop (E.I ρ u).toNat)) = true) = _
  simp
theorem z103 : (E.B ρ (.fn 103 (.pr x n)) = true) = (ints ρ x = rangeM (E.I ρ n).toNat) := by
  show ((ints ρ x == rangeM (E.I ρ n).toNat) = true) = _
  simp
theorem z121 : (E.B ρ (.fn 121 (.pr o (.pr r (.pr k (.pr m (.pr b (.pr A u))))))) = true) = ((ints ρ r).length + (E.I ρ k).toNat = (E.I ρ b).toNat ∧ (ints ρ o).length = (E.I ρ k).toNat ∧
    ints ρ o ++ pickGo ((E.I ρ m).toNat - (E.I ρ k).toNat) (ints ρ r) ((ints ρ A).drop ((E.I ρ u).toNat + (E.I ρ k).toNat)) = pickGo (E.I ρ m).toNat (rangeM (E.I ρ b).toNat) ((ints ρ A).drop (E.I ρ u).toNat)) := by
  show (((ints ρ r).length + (E.I ρ k).toNat == (E.I ρ b).toNat && (ints ρ o).length == (E.I ρ k).toNat && (ints ρ o ++ pickGo ((E.I ρ m).toNat - (E.I ρ k).toNat) (ints ρ r) ((ints ρ A).drop ((E.I ρ u).toNat + (E.I ρ k).toNat)) == pickGo (E.I ρ m).toNat (rangeM (E.I ρ b).toNat) ((ints ρ A).drop (E.I ρ u).toNat))) = true) = _
  simp [and_assoc]
theorem t106_pick {B : E} (h : E.B ρ (.fn 102 (.pr x (.pr m (.pr b (.pr A u))))) = true) (h' : E.B ρ (.fn 102 (.pr y (.pr m (.pr b (.pr B (.int 0)))))) = true) (hB : E.B ρ (.fn 111 (.pr B (.pr A u))) = true) : E.B ρ (.fn 106 (.pr x y)) = true := by
  rw [z102] at h h'; rw [z111] at hB; rw [z106, h, h', hB]; rfl
theorem rangeM_len (n : Nat) : (rangeM n).length = n := by simp [rangeM]
theorem rangeM_succ (n : Nat) : rangeM (n + 1) = rangeM n ++ [(n : Int)] := by
  simp only [rangeM, List.range_succ, List.map_append, List.map_cons, List.map_nil]; rfl
theorem t103_first (hx : ints ρ x = [E.I ρ i]) (hi : E.I ρ i = 0) (hn : E.I ρ n = 1) : E.B ρ (.fn 103 (.pr x n)) = true := by
  rw [z103, hx, hn, hi]; rfl
theorem t103_step (h : E.B ρ (.fn 103 (.pr x i)) = true) (hx : ints ρ y = ints ρ x ++ [E.I ρ i]) (h0 : 0 ≤ E.I ρ i) (hn : E.I ρ n = E.I ρ i + 1) : E.B ρ (.fn 103 (.pr y n)) = true := by
  rw [z103] at *
  rw [hx, h, hn]
  obtain ⟨t, ht⟩ := Int.eq_ofNat_of_zero_le h0
  have e1 : (E.I ρ i).toNat = t := by omega
  have e2 : (E.I ρ i + 1).toNat = t + 1 := by omega
  rw [e1, e2, rangeM_succ, ht]
theorem t121_zero (hr : ints ρ r = rangeM (E.I ρ b).toNat) (ho : ints ρ o = []) (hk : E.I ρ k = 0) : E.B ρ (.fn 121 (.pr o (.pr r (.pr k (.pr m (.pr b (.pr A u))))))) = true := by
  rw [z121, hr, ho, hk]
  refine ⟨by rw [rangeM_len]; rfl, rfl, ?_⟩
  show [] ++ pickGo ((E.I ρ m).toNat - 0) _ (List.drop (_ + 0) _) = _
  rw [List.nil_append, Nat.sub_zero, Nat.add_zero]
theorem t102_end (h : E.B ρ (.fn 121 (.pr o (.pr r (.pr k (.pr m (.pr b (.pr A u))))))) = true) (hk : E.I ρ m ≤ E.I ρ k) (hx : ints ρ x = sortU (ints ρ o)) : E.B ρ (.fn 102 (.pr x (.pr m (.pr b (.pr A u))))) = true := by
  rw [z121] at h; rw [z102, hx]
  obtain ⟨_, _, h3⟩ := h
  have e : (E.I ρ m).toNat - (E.I ρ k).toNat = 0 := by omega
  rw [e] at h3
  simp only [pickGo, List.append_nil] at h3
  unfold pickM
  rw [← h3]
theorem t121_step {o' r' k' : E} (h : E.B ρ (.fn 121 (.pr o (.pr r (.pr k (.pr m (.pr b (.pr A u))))))) = true) (h0 : 0 ≤ E.I ρ k) (h1 : E.I ρ k < E.I ρ m) (hu : 0 ≤ E.I ρ u) (hp : E.I ρ p = E.I ρ u + E.I ρ k) (hA : E.I ρ p < E.I ρ (.fn 0 A))
    (hr : 1 ≤ E.I ρ (.fn 0 r)) (hj : E.I ρ j = Int.tmod (E.I ρ (.fn 1 (.pr A p))) (E.I ρ (.fn 0 r))) (hj0 : 0 ≤ E.I ρ j) (hj1 : E.I ρ j < E.I ρ (.fn 0 r)) (hk : E.I ρ k' = E.I ρ k + 1)
    (ho : ints ρ o' = ints ρ o ++ [(ints ρ r).getD (E.I ρ j).toNat 0]) (hr' : ints ρ r' = (ints ρ r).eraseIdx (E.I ρ j).toNat) : E.B ρ (.fn 121 (.pr o' (.pr r' (.pr k' (.pr m (.pr b (.pr A u))))))) = true := by
  rw [z121] at h ⊢
  obtain ⟨g1, g2, g3⟩ := h
  have hl : ((ints ρ r).length : Int) = E.I ρ (.fn 0 r) := ints_len
  have hlA : ((ints ρ A).length : Int) = E.I ρ (.fn 0 A) := ints_len
  have ek : (E.I ρ k').toNat = (E.I ρ k).toNat + 1 := by omega
  rw [ho, hr', ek]
  refine ⟨by rw [List.length_eraseIdx]; split <;> omega, by simp [g2], ?_⟩
  rw [← g3]
  obtain ⟨t, ht⟩ : ∃ t : Nat, (E.I ρ m).toNat - (E.I ρ k).toNat = t + 1 := ⟨(E.I ρ m).toNat - (E.I ρ k).toNat - 1, by omega⟩
  have et : (E.I ρ m).toNat - ((E.I ρ k).toNat + 1) = t := by omega
  rw [ht, et, drop_cons (l := ints ρ A) (k := (E.I ρ u).toNat + (E.I ρ k).toNat) (by omega)]
  simp only [pickGo, List.headD_cons, List.tail_cons]
  have ep : (E.I ρ p).toNat = (E.I ρ u).toNat + (E.I ρ k).toNat := by omega
  rw [I_nth, ep, ← hl] at hj
  rw [← hj, List.append_assoc]
  rfl
end
section
variable {ρ : Env} {x y l A a b k u i j p q n m r o c d w v : E}
theorem erase_both {a1 b1 a2 b2 : E} (h0 : 0 ≤ E.I ρ j) (h1 : E.I ρ a1 ≤ 0) (h2 : E.I ρ b1 = E.I ρ j) (h3 : E.I ρ a2 = E.I ρ j + 1) (h4 : E.I ρ b2 = E.I ρ (.fn 0 r)) :
    ints ρ (.fn 3 (.pr (.fn 4 (.pr r (.pr a1 b1))) (.fn 4 (.pr r (.pr a2 b2))))) = (ints ρ r).eraseIdx (E.I ρ j).toNat := by
  rw [ints_app, ints_sub, ints_sub, List.eraseIdx_eq_take_drop_succ]
  have e1 : (E.I ρ a1).toNat = 0 := by omega
  have e4 : (E.I ρ b2).toNat = (ints ρ r).length := by rw [h4, ← ints_len]; omega
  have e3 : (E.I ρ a2).toNat = (E.I ρ j).toNat + 1 := by omega
  rw [e1, h2, e3, e4, List.take_length]; rfl
theorem erase_tail {a2 b2 : E} (h0 : E.I ρ j = 0) (h3 : E.I ρ a2 = E.I ρ j + 1) (h4 : E.I ρ b2 = E.I ρ (.fn 0 r)) : ints ρ (.fn 4 (.pr r (.pr a2 b2))) = (ints ρ r).eraseIdx (E.I ρ j).toNat := by
  rw [ints_sub, List.eraseIdx_eq_take_drop_succ]
  have e4 : (E.I ρ b2).toNat = (ints ρ r).length := by rw [h4, ← ints_len]; omega
  have e3 : (E.I ρ a2).toNat = 1 := by omega
  rw [e3, e4, List.take_length, h0]; rfl
theorem erase_head {a1 b1 : E} (h0 : 0 ≤ E.I ρ j) (h1 : E.I ρ a1 ≤ 0) (h2 : E.I ρ b1 = E.I ρ j) (h3 : E.I ρ (.fn 0 r) = E.I ρ j + 1) : ints ρ (.fn 4 (.pr r (.pr a1 b1))) = (ints ρ r).eraseIdx (E.I ρ j).toNat := by
  rw [ints_sub, List.eraseIdx_eq_take_drop_succ]
  have e1 : (E.I ρ a1).toNat = 0 := by omega
  rw [← ints_len] at h3
  rw [e1, h2, List.drop_of_length_le (i := (E.I ρ j).toNat + 1) (by omega)]; simp
theorem erase_none (h0 : E.I ρ j = 0) (h3 : E.I ρ (.fn 0 r) = 1) : ints ρ (.fn 10 a) = (ints ρ r).eraseIdx (E.I ρ j).toNat := by
  rw [← ints_len] at h3
  rw [ints_nil, List.eraseIdx_eq_take_drop_succ, List.drop_of_length_le (i := (E.I ρ j).toNat + 1) (by omega), h0]; rfl
theorem ints_sort : ints ρ (.fn 40 o) = sortU (ints ρ o) := by
  show ((sortU ((E.L ρ o).map U.toI)).map U.int).map U.toI = _
  rw [List.map_map]
  exact List.map_id' _
end
theorem insU_len (x : Int) : ∀ l : List Int, (insU x l).length = l.length + 1
  | [] => rfl
  | y :: l => by
    simp only [insU]
    split <;> simp [insU_len x l]
theorem sortU_len : ∀ l : List Int, (sortU l).length = l.length
  | [] => rfl
  | x :: l => by simp only [sortU, insU_len, sortU_len l, List.length_cons]
theorem I_sortlen {ρ : Env} {o : E} : E.I ρ (.fn 0 (.fn 40 o)) = E.I ρ (.fn 0 o) := by
  rw [← ints_len, ← ints_len, ints_sort, sortU_len]
/-! the places of a list of truth values -/
theorem idxB_app (v : Bool) : ∀ (l l' : List U) (k : Int), idxB v (l ++ l') k = idxB v l k ++ idxB v l' (k + l.length)
  | [], l', k => by simp [idxB]
  | u :: l, l', k => by
    have e : k + 1 + (l.length : Int) = k + ((u :: l).length : Int) := by simp only [List.length_cons]; omega
    simp only [List.cons_append, idxB]
    split <;> simp [idxB_app v l l' (k + 1), e]
theorem idxB_len : ∀ (l : List U) (k : Int), (idxB true l k).length + (idxB false l k).length = l.length
  | [], k => rfl
  | u :: l, k => by
    have := idxB_len l (k + 1)
    simp only [idxB]
    cases u.toB <;> simp <;> omega
theorem idxB_take (v : Bool) (l : List U) (n : Nat) (h : n < l.length) : idxB v (l.take (n + 1)) 0 = idxB v (l.take n) 0 ++ (if (l.getD n (.int 0)).toB == v then [(n : Int)] else []) := by
  have e : l.take (n + 1) = l.take n ++ [l.getD n (.int 0)] := by
    rw [List.take_add_one, List.getD_eq_getElem?_getD, List.getElem?_eq_getElem h]; rfl
  rw [e, idxB_app]
  congr 1
  have e2 : (0 : Int) + ((l.take n).length : Int) = n := by rw [List.length_take]; omega
  rw [e2]
  simp only [idxB]
  split <;> simp_all
theorem idxB_repl (n : Nat) : ∀ k : Int, idxB true (List.replicate n (U.bool false)) k = [] := by
  induction n with
  | zero => intro k; rfl
  | succ n ih => intro k; rw [List.replicate_succ]; simp only [idxB, U.toB]; simpa using ih (k + 1)
section
variable {ρ : Env} {x y l A a b k u i j p q n m r o c d w v pk : E}
theorem z124 : (E.B ρ (.fn 124 (.pr x (.pr pk n))) = true) = (ints ρ x = idxB true ((E.L ρ pk).take (E.I ρ n).toNat) 0) := by
  show ((ints ρ x == idxB true ((E.L ρ pk).take (E.I ρ n).toNat) 0) = true) = _
  simp
theorem z122 : (E.B ρ (.fn 122 (.pr pk (.pr i (.pr m (.pr b A))))) = true) = ((E.L ρ pk).length = (E.I ρ b).toNat ∧ (idxB false (E.L ρ pk) 0).length + (E.I ρ i).toNat = (E.I ρ b).toNat ∧
    sortU (idxB true (E.L ρ pk) 0 ++ pickGo ((E.I ρ m).toNat - (E.I ρ i).toNat) (idxB false (E.L ρ pk) 0) ((ints ρ A).drop (E.I ρ i).toNat)) = pickM (E.I ρ m).toNat (E.I ρ b).toNat (ints ρ A)) := by
  show (((E.L ρ pk).length == (E.I ρ b).toNat && (idxB false (E.L ρ pk) 0).length + (E.I ρ i).toNat == (E.I ρ b).toNat && sortU (idxB true (E.L ρ pk) 0 ++ pickGo ((E.I ρ m).toNat - (E.I ρ i).toNat) (idxB false (E.L ρ pk) 0) ((ints ρ A).drop (E.I ρ i).toNat)) == pickM (E.I ρ m).toNat (E.I ρ b).toNat (ints ρ A)) = true) = _
  simp [and_assoc]
theorem z123 : (E.B ρ (.fn 123 (.pr pk (.pr n (.pr j i)))) = true) = (((idxB false ((E.L ρ pk).take (E.I ρ n).toNat) 0).length : Int) + E.I ρ j = E.I ρ i ∧ 0 ≤ E.I ρ j ∧ E.I ρ i < (idxB false (E.L ρ pk) 0).length) := by
  show (decide _ = true) = _
  simp only [decide_eq_true_eq]; rfl
theorem t124_zero (h : E.I ρ n ≤ 0) : E.B ρ (.fn 124 (.pr (.fn 10 a) (.pr pk n))) = true := by
  rw [z124, ints_nil]
  have : (E.I ρ n).toNat = 0 := by omega
  rw [this]; rfl
theorem B_nth : E.B ρ (.fn 1 (.pr pk n)) = ((E.L ρ pk).getD (E.I ρ n).toNat (.int 0)).toB := rfl
theorem t124_yes (h : E.B ρ (.fn 124 (.pr x (.pr pk n))) = true) (hb : E.B ρ (.fn 1 (.pr pk n)) = true) (h0 : 0 ≤ E.I ρ n) (hl : E.I ρ n < E.I ρ (.fn 0 pk)) (hm : E.I ρ m = E.I ρ n + 1) (hy : ints ρ y = ints ρ x ++ [E.I ρ n]) : E.B ρ (.fn 124 (.pr y (.pr pk m))) = true := by
  rw [z124] at *
  have hl' : (E.I ρ n).toNat < (E.L ρ pk).length := by
    have : E.I ρ (.fn 0 pk) = ((E.L ρ pk).length : Int) := rfl
    omega
  have em : (E.I ρ m).toNat = (E.I ρ n).toNat + 1 := by omega
  rw [em, idxB_take _ _ _ hl', hy, h, ← B_nth, hb]
  have : ((E.I ρ n).toNat : Int) = E.I ρ n := by omega
  simp [this]
theorem t124_no (h : E.B ρ (.fn 124 (.pr x (.pr pk n))) = true) (hb : ¬ E.B ρ (.fn 1 (.pr pk n)) = true) (h0 : 0 ≤ E.I ρ n) (hl : E.I ρ n < E.I ρ (.fn 0 pk)) (hm : E.I ρ m = E.I ρ n + 1) : E.B ρ (.fn 124 (.pr x (.pr pk m))) = true := by
  rw [z124] at *
  have hl' : (E.I ρ n).toNat < (E.L ρ pk).length := by
    have : E.I ρ (.fn 0 pk) = ((E.L ρ pk).length : Int) := rfl
    omega
  have em : (E.I ρ m).toNat = (E.I ρ n).toNat + 1 := by omega
  have hb' : E.B ρ (.fn 1 (.pr pk n)) = false := by simpa using hb
  rw [em, idxB_take _ _ _ hl', h, ← B_nth, hb']
  simp
end
theorem idxB_replF : ∀ n : Nat, idxB false (List.replicate n (U.bool false)) 0 = rangeM n
  | 0 => rfl
  | n + 1 => by
    rw [List.replicate_succ', idxB_app, idxB_replF n, rangeM_succ]
    have e : (0 : Int) + ((List.replicate n (U.bool false)).length : Int) = n := by simp
    rw [e]; rfl
section
variable {ρ : Env} {x y l A a b k u i j p q n m r o c d w v pk : E}
theorem t122_start (hi : E.I ρ i = 0) : E.B ρ (.fn 122 (.pr (.fn 5 (.pr b (.bool false))) (.pr i (.pr m (.pr b A))))) = true := by
  rw [z122, hi]
  have e : E.L ρ (.fn 5 (.pr b (.bool false))) = List.replicate (E.I ρ b).toNat (U.bool false) := rfl
  rw [e, idxB_repl, idxB_replF]
  refine ⟨by simp, by rw [rangeM_len]; rfl, ?_⟩
  show sortU ([] ++ pickGo ((E.I ρ m).toNat - 0) _ _) = _
  rw [List.nil_append, Nat.sub_zero]; rfl
theorem t122_eq (h : E.B ρ (.fn 122 (.pr pk (.pr i (.pr m (.pr b A))))) = true) (he : E.I ρ j = E.I ρ i) : E.B ρ (.fn 122 (.pr pk (.pr j (.pr m (.pr b A))))) = true := by
  rw [z122] at *; rw [he]; exact h
theorem idxB_le (v : Bool) : ∀ (l : List U) (k : Int), (idxB v l k).length ≤ l.length
  | [], k => Nat.le_refl _
  | u :: l, k => by
    have := idxB_le v l (k + 1)
    simp only [idxB]
    split <;> simp <;> omega
theorem t124_len (h : E.B ρ (.fn 124 (.pr x (.pr pk n))) = true) (h' : E.B ρ (.fn 122 (.pr pk (.pr i (.pr m (.pr b A))))) = true) :
    (E.I ρ (.fn 0 pk) ≤ E.I ρ n → 0 ≤ E.I ρ i → 0 ≤ E.I ρ b → E.I ρ (.fn 0 x) = E.I ρ i) ∧ (0 ≤ E.I ρ n → E.I ρ (.fn 0 x) ≤ E.I ρ n) := by
  rw [z124] at h; rw [z122] at h'
  obtain ⟨h1, h2, _⟩ := h'
  have hp : E.I ρ (.fn 0 pk) = ((E.L ρ pk).length : Int) := rfl
  rw [← ints_len (l := x), h, hp]
  constructor
  · intro a1 a2 a3
    rw [List.take_of_length_le (by omega)]
    have := idxB_len (E.L ρ pk) 0
    omega
  · intro a1
    have := idxB_le true ((E.L ρ pk).take (E.I ρ n).toNat) 0
    rw [List.length_take] at this
    omega
theorem t111_eq0 (h : E.B ρ (.fn 111 (.pr x (.pr l a))) = true) (hc : E.I ρ c = E.I ρ a) : E.B ρ (.fn 111 (.pr x (.pr l c))) = true := t111_eq h hc
end
theorem insU_head (x : Int) : ∀ l : List Int, (∀ y ∈ l, x ≤ y) → insU x l = x :: l
  | [], _ => rfl
  | y :: l, h => by
    simp only [insU]
    rw [if_pos (h y (List.mem_cons_self ..))]
theorem sortU_sorted : ∀ l : List Int, l.Pairwise (· ≤ ·) → sortU l = l
  | [], _ => rfl
  | x :: l, h => by
    obtain ⟨h1, h2⟩ := List.pairwise_cons.1 h
    simp only [sortU]
    rw [sortU_sorted l h2, insU_head x l h1]
theorem idxB_ge (v : Bool) : ∀ (l : List U) (k q : Int), q ∈ idxB v l k → k ≤ q
  | [], k, q, h => by simp [idxB] at h
  | u :: l, k, q, h => by
    simp only [idxB] at h
    split at h
    · rcases List.mem_cons.1 h with rfl | h
      · exact Int.le_refl _
      · have := idxB_ge v l _ _ h; omega
    · have := idxB_ge v l _ _ h; omega
theorem idxB_pair (v : Bool) : ∀ (l : List U) (k : Int), (idxB v l k).Pairwise (· ≤ ·)
  | [], k => List.Pairwise.nil
  | u :: l, k => by
    simp only [idxB]
    split
    · refine List.pairwise_cons.2 ⟨fun q hq => ?_, idxB_pair v l (k + 1)⟩
      have := idxB_ge v l _ _ hq; omega
    · exact idxB_pair v l (k + 1)
section
variable {ρ : Env} {x y l A a b k u i j p q n m r o c d w v pk : E}
theorem t102_all (h : E.B ρ (.fn 124 (.pr x (.pr pk n))) = true) (h' : E.B ρ (.fn 122 (.pr pk (.pr m (.pr m (.pr b A))))) = true) (hn : E.I ρ (.fn 0 pk) ≤ E.I ρ n) (hu : E.I ρ u = 0) : E.B ρ (.fn 102 (.pr x (.pr m (.pr b (.pr A u))))) = true := by
  rw [z124] at h; rw [z122] at h'; rw [z102]
  have hp : E.I ρ (.fn 0 pk) = ((E.L ρ pk).length : Int) := rfl
  rw [hp] at hn
  rw [List.take_of_length_le (by omega)] at h
  obtain ⟨_, _, h3⟩ := h'
  rw [Nat.sub_self] at h3
  simp only [pickGo, List.append_nil] at h3
  rw [h, hu, ← sortU_sorted _ (idxB_pair true _ 0), h3]
  rfl
theorem t123_start (h' : E.B ρ (.fn 122 (.pr pk (.pr k (.pr m (.pr b A))))) = true) (hn : E.I ρ n = 0) (hj : E.I ρ j = E.I ρ i) (h0 : 0 ≤ E.I ρ j) (hk : 0 ≤ E.I ρ k) (hb : E.I ρ i < E.I ρ b - E.I ρ k) : E.B ρ (.fn 123 (.pr pk (.pr n (.pr j i)))) = true := by
  rw [z122] at h'; rw [z123, hn]
  obtain ⟨_, h2, _⟩ := h'
  refine ⟨?_, h0, by omega⟩
  show (([] : List Int).length : Int) + _ = _
  simpa using hj
theorem t123_yes (h : E.B ρ (.fn 123 (.pr pk (.pr n (.pr j i)))) = true) (hb : E.B ρ (.fn 1 (.pr pk n)) = true) (h0 : 0 ≤ E.I ρ n) (hl : E.I ρ n < E.I ρ (.fn 0 pk)) (hm : E.I ρ m = E.I ρ n + 1) : E.B ρ (.fn 123 (.pr pk (.pr m (.pr j i)))) = true := by
  rw [z123] at *
  have hp : E.I ρ (.fn 0 pk) = ((E.L ρ pk).length : Int) := rfl
  have em : (E.I ρ m).toNat = (E.I ρ n).toNat + 1 := by omega
  rw [em, idxB_take _ _ _ (by omega), ← B_nth, hb]
  simpa using h
theorem t123_no (h : E.B ρ (.fn 123 (.pr pk (.pr n (.pr j i)))) = true) (hb : ¬ E.B ρ (.fn 1 (.pr pk n)) = true) (h0 : 0 ≤ E.I ρ n) (hl : E.I ρ n < E.I ρ (.fn 0 pk)) (hm : E.I ρ m = E.I ρ n + 1) (hk : E.I ρ k = E.I ρ j - 1) (hj : ¬ E.I ρ j = 0) : E.B ρ (.fn 123 (.pr pk (.pr m (.pr k i)))) = true := by
  rw [z123] at *
  have hp : E.I ρ (.fn 0 pk) = ((E.L ρ pk).length : Int) := rfl
  have em : (E.I ρ m).toNat = (E.I ρ n).toNat + 1 := by omega
  have hb' : E.B ρ (.fn 1 (.pr pk n)) = false := by simpa using hb
  obtain ⟨g1, g2, g3⟩ := h
  rw [em, idxB_take _ _ _ (by omega), ← B_nth, hb']
  refine ⟨?_, by omega, g3⟩
  simp only [List.length_append]
  simp
  omega
theorem t123_end (h : E.B ρ (.fn 123 (.pr pk (.pr n (.pr j i)))) = true) (hn : E.I ρ (.fn 0 pk) ≤ E.I ρ n) : False := by
  rw [z123] at h
  have hp : E.I ρ (.fn 0 pk) = ((E.L ρ pk).length : Int) := rfl
  obtain ⟨g1, g2, g3⟩ := h
  rw [List.take_of_length_le (by omega)] at g1
  omega
end
theorem t123_rng {ρ : Env} {pk n j i : E} (h : E.B ρ (.fn 123 (.pr pk (.pr n (.pr j i)))) = true) : 0 ≤ E.I ρ j ∧ E.I ρ j < E.I ρ (.fn 0 pk) := by
  rw [z123] at h
  have hp : E.I ρ (.fn 0 pk) = ((E.L ρ pk).length : Int) := rfl
  have := idxB_le false (E.L ρ pk) 0
  obtain ⟨g1, g2, g3⟩ := h
  omega
theorem insU_comm (x y : Int) : ∀ l : List Int, insU x (insU y l) = insU y (insU x l)
  | [] => by
    by_cases h : x ≤ y <;> by_cases h' : y ≤ x
    · have : x = y := by omega
      subst this; rfl
    · simp [insU, h, h']
    · simp [insU, h, h']
    · omega
  | z :: l => by
    have ih := insU_comm x y l
    by_cases h1 : x ≤ z <;> by_cases h2 : y ≤ z <;> by_cases h : x ≤ y <;> by_cases h' : y ≤ x <;>
      first
        | (exfalso; omega)
        | (have : x = y := by omega
           subst this; rfl)
        | simp [insU, h1, h2, h, h', ih]
theorem sortU_mid (x : Int) (c : List Int) : ∀ a : List Int, sortU (a ++ x :: c) = insU x (sortU (a ++ c))
  | [] => rfl
  | y :: a => by
    simp only [List.cons_append, sortU]
    rw [sortU_mid x c a, insU_comm]
theorem idx_set (l : List U) (n : Nat) (h : n < l.length) (hb : (l.getD n (.int 0)).toB = false) :
    ∃ c a' c', idxB false l 0 = idxB false (l.take n) 0 ++ (n : Int) :: c ∧ idxB false (l.set n (.bool true)) 0 = idxB false (l.take n) 0 ++ c ∧ idxB true l 0 = a' ++ c' ∧ idxB true (l.set n (.bool true)) 0 = a' ++ (n : Int) :: c' := by
  have e1 : l = l.take n ++ l.getD n (.int 0) :: l.drop (n + 1) := by
    rw [List.getD_eq_getElem?_getD, List.getElem?_eq_getElem h, Option.getD_some, ← List.drop_eq_getElem_cons h, List.take_append_drop]
  have e2 : l.set n (.bool true) = l.take n ++ U.bool true :: l.drop (n + 1) := by
    rw [List.set_eq_take_append_cons_drop, if_pos h]
  have el : (0 : Int) + ((l.take n).length : Int) = n := by rw [List.length_take]; omega
  refine ⟨idxB false (l.drop (n + 1)) (n + 1), idxB true (l.take n) 0, idxB true (l.drop (n + 1)) (n + 1), ?_, ?_, ?_, ?_⟩
  · conv => lhs; rw [e1]
    rw [idxB_app, el]; simp only [idxB, hb]; rfl
  · rw [e2, idxB_app, el]; simp only [idxB, U.toB]; rfl
  · conv => lhs; rw [e1]
    rw [idxB_app, el]; simp only [idxB, hb]; rfl
  · rw [e2, idxB_app, el]; simp only [idxB, U.toB]; rfl
section
variable {ρ : Env} {x y l A a b k u i j p q n m r o c d w v pk : E}
theorem t122_set {i' j0 : E} (h : E.B ρ (.fn 122 (.pr pk (.pr i (.pr m (.pr b A))))) = true) (h3 : E.B ρ (.fn 123 (.pr pk (.pr n (.pr j j0)))) = true) (hj : E.I ρ j = 0) (hb : ¬ E.B ρ (.fn 1 (.pr pk n)) = true) (h0 : 0 ≤ E.I ρ n) (hl : E.I ρ n < E.I ρ (.fn 0 pk))
    (hi0 : 0 ≤ E.I ρ i) (him : E.I ρ i < E.I ρ m) (hA : E.I ρ i < E.I ρ (.fn 0 A)) (hv : E.I ρ j0 = Int.tmod (E.I ρ (.fn 1 (.pr A i))) (E.I ρ b - E.I ρ i)) (hib : E.I ρ i < E.I ρ b) (hi : E.I ρ i' = E.I ρ i + 1) :
    E.B ρ (.fn 122 (.pr (.fn 2 (.pr pk (.pr n (.bool true)))) (.pr i' (.pr m (.pr b A))))) = true := by
  rw [z122] at h ⊢; rw [z123] at h3
  have hp : E.I ρ (.fn 0 pk) = ((E.L ρ pk).length : Int) := rfl
  have hlA : ((ints ρ A).length : Int) = E.I ρ (.fn 0 A) := ints_len
  have hb' : ((E.L ρ pk).getD (E.I ρ n).toNat (.int 0)).toB = false := by rw [← B_nth]; simpa using hb
  have es : E.L ρ (.fn 2 (.pr pk (.pr n (.bool true)))) = (E.L ρ pk).set (E.I ρ n).toNat (.bool true) := rfl
  obtain ⟨c, a', c', f1, f2, f3, f4⟩ := idx_set (E.L ρ pk) (E.I ρ n).toNat (by omega) hb'
  obtain ⟨g1, g2, g3⟩ := h
  have ha : ((idxB false ((E.L ρ pk).take (E.I ρ n).toNat) 0).length : Int) = E.I ρ j0 := by omega
  generalize idxB false ((E.L ρ pk).take (E.I ρ n).toNat) 0 = al at *
  rw [es, f2, f4]
  rw [f1, f3] at g3
  rw [f1] at g2
  simp only [List.length_append, List.length_cons] at g2
  refine ⟨by simpa using g1, by simp only [List.length_append]; omega, ?_⟩
  rw [← g3]
  obtain ⟨t, ht⟩ : ∃ t : Nat, (E.I ρ m).toNat - (E.I ρ i).toNat = t + 1 := ⟨(E.I ρ m).toNat - (E.I ρ i).toNat - 1, by omega⟩
  have et : (E.I ρ m).toNat - (E.I ρ i').toNat = t := by omega
  have ei : (E.I ρ i').toNat = (E.I ρ i).toNat + 1 := by omega
  rw [ht, et, ei, drop_cons (l := ints ρ A) (k := (E.I ρ i).toNat) (by omega)]
  simp only [pickGo, List.headD_cons, List.tail_cons]
  rw [I_nth] at hv
  have hlen : (((al ++ ((E.I ρ n).toNat : Int) :: c).length : Nat) : Int) = E.I ρ b - E.I ρ i := by simp only [List.length_append, List.length_cons]; omega
  rw [hlen, ← hv, ← ha, Int.toNat_natCast]
  have q1 : (al ++ ((E.I ρ n).toNat : Int) :: c).getD al.length 0 = ((E.I ρ n).toNat : Int) := by simp
  have q2 : (al ++ ((E.I ρ n).toNat : Int) :: c).eraseIdx al.length = al ++ c := by
    rw [List.eraseIdx_append_of_length_le (Nat.le_refl _)]; simp
  rw [q1, q2, sortU_mid, List.append_assoc, List.cons_append, sortU_mid, List.append_assoc]
end
end Go.SX

set_option linter.unusedVariables false
set_option linter.unusedSimpArgs false
namespace Go.SX
/-! ### a map that counts -/
theorem mfind_cons (q : Int) (u : U) (m : List U) : mfind q (u :: m) = if u.fst.toI = q then some u.snd else mfind q m := rfl
theorem mput_cons (k : Int) (v u : U) (m : List U) : mput k v (u :: m) = if u.fst.toI = k then .lst [.int k, v] :: m else u :: mput k v m := rfl
theorem fst_pair (k : Int) (v : U) : (U.lst [.int k, v]).fst.toI = k := rfl
theorem snd_pair (k : Int) (v : U) : (U.lst [.int k, v]).snd = v := rfl
theorem mfind_mput (k q : Int) (v : U) : ∀ m : List U, mfind q (mput k v m) = if q = k then some v else mfind q m
  | [] => by
    show mfind q [U.lst [.int k, v]] = _
    rw [mfind_cons, fst_pair, snd_pair]
    by_cases h : q = k
    · rw [if_pos h, if_pos h.symm]
    · rw [if_neg h, if_neg (fun e => h e.symm)]
  | u :: l => by
    rw [mput_cons]
    by_cases h : u.fst.toI = k
    · rw [if_pos h, mfind_cons, fst_pair, snd_pair, mfind_cons, h]
      by_cases h2 : q = k
      · rw [if_pos h2, if_pos h2.symm]
      · rw [if_neg h2, if_neg (fun e => h2 e.symm), if_neg (fun e => h2 e.symm)]
    · rw [if_neg h, mfind_cons, mfind_mput k q v l, mfind_cons]
      by_cases h2 : q = k
      · rw [if_pos h2, if_neg (h2 ▸ h), if_pos h2]
      · rw [if_neg h2, if_neg h2]
def keysI (m : List U) : List Int := m.map fun u => u.fst.toI
theorem keys_mput (k : Int) (v : U) : ∀ m : List U, keysI (mput k v m) = if k ∈ keysI m then keysI m else keysI m ++ [k]
  | [] => rfl
  | u :: l => by
    rw [mput_cons]
    by_cases h : u.fst.toI = k
    · have : k ∈ keysI (u :: l) := by simp [keysI, h]
      rw [if_pos h, if_pos this]
      show (U.lst [.int k, v]).fst.toI :: keysI l = u.fst.toI :: keysI l
      rw [fst_pair, h]
    · have ih := keys_mput k v l
      have e1 : keysI (u :: mput k v l) = u.fst.toI :: keysI (mput k v l) := rfl
      have e2 : keysI (u :: l) = u.fst.toI :: keysI l := rfl
      simp only [h, if_neg, not_false_eq_true]
      rw [e1, e2, ih]
      have h' : ¬ k = u.fst.toI := fun e => h e.symm
      by_cases h2 : k ∈ keysI l <;> simp [h2, h']
theorem mput_len (k : Int) (v : U) (m : List U) : (mput k v m).length ≤ m.length + 1 := by
  have e : (keysI (mput k v m)).length = (mput k v m).length := List.length_map _
  have e2 : (keysI m).length = m.length := List.length_map _
  rw [← e, ← e2, keys_mput]
  by_cases h : k ∈ keysI m <;> simp [h]
theorem keysOkU_iff (m : List U) : keysOkU m = true ↔ (keysI m).Nodup ∧ (∀ q ∈ keysI m, -9223372036854775808 ≤ q ∧ q ≤ 9223372036854775807) ∧ m.length ≤ 1000000 := by
  unfold keysOkU keysI
  simp [List.all_eq_true, Bool.and_eq_true, and_assoc]
theorem keysOkU_mput {m : List U} (k : Int) (v : U) (h : keysOkU m = true) (h1 : -9223372036854775808 ≤ k) (h2 : k ≤ 9223372036854775807) (h3 : m.length < 1000000) : keysOkU (mput k v m) = true := by
  rw [keysOkU_iff] at *
  obtain ⟨a, b, c⟩ := h
  have hl := mput_len k v m
  rw [keys_mput]
  by_cases hk : k ∈ keysI m
  · simp only [hk, if_pos]; exact ⟨a, b, by omega⟩
  · simp only [hk, if_neg, not_false_eq_true]
    refine ⟨?_, ?_, by omega⟩
    · rw [List.nodup_append]
      refine ⟨a, by simp, ?_⟩
      intro x hx y hy
      simp only [List.mem_singleton] at hy
      intro e; subst e; subst hy; exact hk hx
    · intro q hq
      rcases List.mem_append.1 hq with hq | hq
      · exact b q hq
      · simp only [List.mem_singleton] at hq; subst hq; exact ⟨h1, h2⟩
theorem mgetI_mput (k q : Int) (v : U) (m : List U) : mgetI (mput k v m) q = if q = k then v.toI else mgetI m q := by
  unfold mgetI; rw [mfind_mput]
  by_cases h : q = k <;> simp [h]
theorem cntI_step (l : List Int) (i : Nat) (h : i < l.length) (q : Int) : cntI (l.take (i + 1)) q = cntI (l.take i) q + if q = l.getD i 0 then 1 else 0 := by
  unfold cntI
  rw [List.take_add_one, List.count_append, List.getD_eq_getElem?_getD, List.getElem?_eq_getElem h]
  simp only [Option.toList, Option.getD]
  by_cases e : l[i] = q
  · subst e; simp
  · have e' : ¬ q = l[i] := fun h => e h.symm
    simp [e, e']
theorem cntOk_iff (m : List U) (l : List Int) (i : Nat) (x : List Int) (j : Nat) : cntOk m l i x j = true ↔
    keysOkU m = true ∧ m.length ≤ i + j ∧ ∀ k, (k ∈ l ∨ k ∈ x ∨ k ∈ keysI m) → mgetI m k = cntI (l.take i) k - cntI (x.take j) k := by
  unfold cntOk keysI
  simp only [Bool.and_eq_true, decide_eq_true_eq, List.all_eq_true, beq_iff_eq, List.mem_append, lim, and_assoc, or_assoc]
theorem cntOk_add {m : List U} {l : List Int} {i : Nat} {x : List Int} {j : Nat} {v : U} (h : cntOk m l i x j = true) (hi : i < l.length) (hm : i + j < 1000000)
    (h1 : -9223372036854775808 ≤ l.getD i 0) (h2 : l.getD i 0 ≤ 9223372036854775807) (hv : v.toI = mgetI m (l.getD i 0) + 1) : cntOk (mput (l.getD i 0) v m) l (i + 1) x j = true := by
  rw [cntOk_iff] at *
  obtain ⟨a, b, c⟩ := h
  have hl := mput_len (l.getD i 0) v m
  refine ⟨keysOkU_mput _ _ a h1 h2 (by omega), by omega, ?_⟩
  have hmem : l.getD i 0 ∈ l := by
    rw [List.getD_eq_getElem?_getD, List.getElem?_eq_getElem hi]; exact List.getElem_mem _
  intro k hk
  rw [mgetI_mput, cntI_step l i hi]
  by_cases e : k = l.getD i 0
  · rw [if_pos e, if_pos e, hv, ← e, c k (Or.inl (e ▸ hmem))]; omega
  · rw [if_neg e, if_neg e, c k ?_]
    · omega
    · rw [keys_mput] at hk
      rcases hk with hk | hk | hk
      · exact Or.inl hk
      · exact Or.inr (Or.inl hk)
      · by_cases h' : l.getD i 0 ∈ keysI m
        · rw [if_pos h'] at hk; exact Or.inr (Or.inr hk)
        · rw [if_neg h'] at hk
          rcases List.mem_append.1 hk with hk | hk
          · exact Or.inr (Or.inr hk)
          · exact absurd (List.mem_singleton.1 hk) e
theorem cntOk_sub {m : List U} {l : List Int} {i : Nat} {x : List Int} {j : Nat} {v : U} (h : cntOk m l i x j = true) (hi : j < x.length) (hm : i + j < 1000000)
    (h1 : -9223372036854775808 ≤ x.getD j 0) (h2 : x.getD j 0 ≤ 9223372036854775807) (hv : v.toI = mgetI m (x.getD j 0) - 1) : cntOk (mput (x.getD j 0) v m) l i x (j + 1) = true := by
  rw [cntOk_iff] at *
  obtain ⟨a, b, c⟩ := h
  have hl := mput_len (x.getD j 0) v m
  refine ⟨keysOkU_mput _ _ a h1 h2 (by omega), by omega, ?_⟩
  have hmem : x.getD j 0 ∈ x := by
    rw [List.getD_eq_getElem?_getD, List.getElem?_eq_getElem hi]; exact List.getElem_mem _
  intro k hk
  rw [mgetI_mput, cntI_step x j hi]
  by_cases e : k = x.getD j 0
  · rw [if_pos e, if_pos e, hv, ← e, c k (Or.inr (Or.inl (e ▸ hmem)))]; omega
  · rw [if_neg e, if_neg e, c k ?_]
    · omega
    · rw [keys_mput] at hk
      rcases hk with hk | hk | hk
      · exact Or.inl hk
      · exact Or.inr (Or.inl hk)
      · by_cases h' : x.getD j 0 ∈ keysI m
        · rw [if_pos h'] at hk; exact Or.inr (Or.inr hk)
        · rw [if_neg h'] at hk
          rcases List.mem_append.1 hk with hk | hk
          · exact Or.inr (Or.inr hk)
          · exact absurd (List.mem_singleton.1 hk) e
theorem cntI_le (l : List Int) (k : Int) : 0 ≤ cntI l k ∧ cntI l k ≤ l.length := by
  have := List.count_le_length (a := k) (l := l)
  show 0 ≤ ((l.count k : Nat) : Int) ∧ ((l.count k : Nat) : Int) ≤ _
  omega
/-! a shuffle keeps the counts -/
theorem count_swap (l : List Int) (i j : Nat) (hi : i < l.length) (hj : j < l.length) (q : Int) : (swapM l i j).count q = l.count q := by
  unfold swapM
  have ei : l.getD i 0 = l[i] := by rw [List.getD_eq_getElem?_getD, List.getElem?_eq_getElem hi]; rfl
  have ej : l.getD j 0 = l[j] := by rw [List.getD_eq_getElem?_getD, List.getElem?_eq_getElem hj]; rfl
  have hj' : j < (l.set i l[j]).length := by simpa using hj
  rw [ei, ej, List.count_set hj', List.count_set hi, List.getElem_set]
  have pi : l[i] = q → 0 < l.count q := fun e => List.count_pos_iff.2 (e ▸ List.getElem_mem _)
  have pj : l[j] = q → 0 < l.count q := fun e => List.count_pos_iff.2 (e ▸ List.getElem_mem _)
  by_cases e : i = j
  · subst e
    by_cases h : l[i] = q <;> simp [h] <;> have := pi <;> simp_all <;> omega
  · by_cases h1 : l[i] = q <;> by_cases h2 : l[j] = q <;> simp [h1, h2, e] <;> have := pi <;> have := pj <;> simp_all <;> omega
theorem count_shufGo : ∀ (i : Nat) (l ds : List Int), (i = 0 ∨ i < l.length) → ∀ q, (shufGo i l ds).count q = l.count q
  | 0, l, ds, _, q => rfl
  | i + 1, l, ds, h, q => by
    have hi : i + 1 < l.length := by omega
    unfold shufGo
    have hj : (Int.tmod (ds.headD 0) ((i : Int) + 2)).toNat < l.length := by
      have h1 := Int.tmod_lt_of_pos (ds.headD 0) (b := (i : Int) + 2) (by omega)
      omega
    have hs : (swapM l (i + 1) (Int.tmod (ds.headD 0) ((i : Int) + 2)).toNat).length = l.length := by simp [swapM]
    rw [count_shufGo i _ _ (by omega), count_swap l _ _ hi hj]
theorem count_shufM (l ds : List Int) (q : Int) : (shufM l ds).count q = l.count q := by
  unfold shufM
  apply count_shufGo
  omega
/-! what is picked: in order, within the bound -/
theorem mem_insU (x y : Int) : ∀ l : List Int, y ∈ insU x l ↔ y = x ∨ y ∈ l
  | [] => by simp [insU]
  | z :: l => by
    unfold insU
    by_cases h : x ≤ z
    · simp [h]
    · simp only [h, if_neg, not_false_eq_true, List.mem_cons, mem_insU x y l]
      constructor <;> intro h <;> rcases h with h | h | h <;> simp [h]
theorem mem_sortU (y : Int) : ∀ l : List Int, y ∈ sortU l ↔ y ∈ l
  | [] => by simp [sortU]
  | x :: l => by unfold sortU; rw [mem_insU, mem_sortU y l]; simp
theorem insU_lt (x : Int) : ∀ l : List Int, l.Pairwise (· < ·) → x ∉ l → (insU x l).Pairwise (· < ·)
  | [], _, _ => by simp [insU]
  | y :: l, h, hx => by
    unfold insU
    rw [List.pairwise_cons] at h
    simp only [List.mem_cons, not_or] at hx
    by_cases hxy : x ≤ y
    · simp only [hxy, if_pos]
      rw [List.pairwise_cons, List.pairwise_cons]
      refine ⟨?_, h⟩
      intro z hz
      rcases List.mem_cons.1 hz with e | hz
      · subst e; omega
      · have := h.1 z hz; omega
    · simp only [hxy, if_neg, not_false_eq_true]
      rw [List.pairwise_cons]
      refine ⟨?_, insU_lt x l h.2 hx.2⟩
      intro z hz
      rcases (mem_insU x z l).1 hz with e | hz
      · subst e; omega
      · exact h.1 z hz
theorem sortU_lt : ∀ l : List Int, l.Nodup → (sortU l).Pairwise (· < ·)
  | [], _ => by simp [sortU]
  | x :: l, h => by
    unfold sortU
    rw [List.nodup_cons] at h
    exact insU_lt x _ (sortU_lt l h.2) (by rw [mem_sortU]; exact h.1)
theorem pickGo_ok : ∀ (k : Nat) (r ds : List Int), k ≤ r.length → r.Nodup → (pickGo k r ds).Nodup ∧ ∀ y ∈ pickGo k r ds, y ∈ r
  | 0, r, ds, _, _ => by simp [pickGo]
  | k + 1, r, ds, hk, hr => by
    unfold pickGo
    have hj : (Int.tmod (ds.headD 0) (r.length : Int)).toNat < r.length := by
      have h1 := Int.tmod_lt_of_pos (ds.headD 0) (b := (r.length : Int)) (by omega)
      omega
    generalize (Int.tmod (ds.headD 0) (r.length : Int)).toNat = j at hj
    have hs := List.eraseIdx_sublist r j
    have hl : (r.eraseIdx j).length = r.length - 1 := by rw [List.length_eraseIdx]; simp [hj]
    obtain ⟨a, b⟩ := pickGo_ok k (r.eraseIdx j) ds.tail (by omega) (hs.nodup hr)
    have e : r.getD j 0 = r[j] := by rw [List.getD_eq_getElem?_getD, List.getElem?_eq_getElem hj]; rfl
    refine ⟨List.nodup_cons.2 ⟨?_, a⟩, ?_⟩
    · intro hm
      have hm := b _ hm
      rw [e] at hm
      obtain ⟨i, hi, he⟩ := List.getElem_of_mem hm
      rw [List.getElem_eraseIdx] at he
      have hp := List.pairwise_iff_getElem.1 hr
      by_cases hij : i < j
      · rw [dif_pos hij] at he
        exact hp i j (by omega) hj hij he
      · rw [dif_neg hij] at he
        exact hp j (i + 1) hj (by omega) (by omega) he.symm
    · intro y hy
      rcases List.mem_cons.1 hy with h | h
      · rw [h, e]; exact List.getElem_mem _
      · exact hs.subset (b y h)
theorem pickM_ok (m b : Nat) (ds : List Int) (h : m ≤ b) : (pickM m b ds).Pairwise (· < ·) ∧ ∀ y ∈ pickM m b ds, 0 ≤ y ∧ y < b := by
  have hn : (rangeM b).Nodup := by
    unfold rangeM
    rw [List.nodup_iff_pairwise_ne, List.pairwise_map]
    exact (List.nodup_range (n := b)).imp fun h e => h (Int.ofNat.inj e)
  have hl : (rangeM b).length = b := by simp [rangeM]
  obtain ⟨a, c⟩ := pickGo_ok m (rangeM b) ds (by omega) hn
  refine ⟨sortU_lt _ a, ?_⟩
  intro y hy
  have hy := c y ((mem_sortU y _).1 hy)
  unfold rangeM at hy
  obtain ⟨n, hn, rfl⟩ := List.mem_map.1 hy
  have := List.mem_range.1 hn
  exact ⟨Int.natCast_nonneg _, by simpa using this⟩
section
variable {ρ : Env} {x y l A a b k u i j p q n m r o c d w v i' j' : E}
theorem L_mput : E.L ρ (.fn 34 (.pr m (.pr k v))) = mput (E.I ρ k) (v.den ρ) (E.L ρ m) := rfl
theorem I_mget : E.I ρ (.fn 32 (.pr m (.pr k (.int 0)))) = mgetI (E.L ρ m) (E.I ρ k) := rfl
theorem z140 : (E.B ρ (.fn 140 (.pr m (.pr l (.pr i (.pr x j))))) = true) = (cntOk (E.L ρ m) (ints ρ l) (E.I ρ i).toNat (ints ρ x) (E.I ρ j).toNat = true) := rfl
theorem t140_start (hi : E.I ρ i = 0) (hj : E.I ρ j = 0) : E.B ρ (.fn 140 (.pr (.fn 10 a) (.pr l (.pr i (.pr x j))))) = true := by
  rw [z140, hi, hj, cntOk_iff]
  refine ⟨rfl, Nat.zero_le _, ?_⟩
  intro k _
  simp only [Int.toNat_zero, List.take_zero]
  rfl
theorem t140_eq (h : E.B ρ (.fn 140 (.pr m (.pr l (.pr i (.pr x j))))) = true) (hi : E.I ρ i' = E.I ρ i) (hj : E.I ρ j' = E.I ρ j) : E.B ρ (.fn 140 (.pr m (.pr l (.pr i' (.pr x j'))))) = true := by
  rw [z140] at *; rw [hi, hj]; exact h
/-- while nothing of the second list was counted, it may be any -/
theorem t39_of (h : E.B ρ (.fn 140 (.pr m (.pr l (.pr i (.pr x j))))) = true) : E.B ρ (.fn 39 m) = true := by
  rw [z140, cntOk_iff] at h; exact h.1
theorem t140_len (h : E.B ρ (.fn 140 (.pr m (.pr l (.pr i (.pr x j))))) = true) : E.I ρ (.fn 0 m) ≤ max (E.I ρ i) 0 + max (E.I ρ j) 0 := by
  rw [z140, cntOk_iff] at h
  have := h.2.1
  show (((E.L ρ m).length : Nat) : Int) ≤ _
  omega
theorem getD_mem (l : List Int) (n : Nat) (h : n < l.length) : l.getD n 0 ∈ l := by
  rw [List.getD_eq_getElem?_getD, List.getElem?_eq_getElem h]; exact List.getElem_mem _
theorem mfind_mem (q : Int) : ∀ m : List U, (mfind q m).isSome = true → q ∈ keysI m
  | [], h => by simp [mfind] at h
  | u :: l, h => by
    unfold mfind at h
    by_cases e : u.fst.toI = q
    · simp [keysI, e]
    · rw [if_neg e] at h
      have := mfind_mem q l h
      simp only [keysI, List.map_cons, List.mem_cons]; exact Or.inr this
theorem t140_rng (h : E.B ρ (.fn 140 (.pr m (.pr l (.pr i (.pr x j))))) = true) (k : E) :
    E.I ρ (.fn 32 (.pr m (.pr k (.int 0)))) ≤ E.I ρ (.fn 0 l) ∧ -(E.I ρ (.fn 0 x)) ≤ E.I ρ (.fn 32 (.pr m (.pr k (.int 0)))) := by
  rw [z140, cntOk_iff] at h
  rw [← ints_len, ← ints_len, I_mget]
  by_cases hk : (mfind (E.I ρ k) (E.L ρ m)).isSome = true
  · rw [h.2.2 _ (Or.inr (Or.inr (mfind_mem _ _ hk)))]
    have a := cntI_le ((ints ρ l).take (E.I ρ i).toNat) (E.I ρ k)
    have b := cntI_le ((ints ρ x).take (E.I ρ j).toNat) (E.I ρ k)
    rw [List.length_take] at a b
    omega
  · have e : mgetI (E.L ρ m) (E.I ρ k) = 0 := by
      unfold mgetI
      cases hc : mfind (E.I ρ k) (E.L ρ m) with
      | none => rfl
      | some v => rw [hc] at hk; simp at hk
    rw [e]; omega
theorem t140_add (h : E.B ρ (.fn 140 (.pr m (.pr l (.pr i (.pr x j))))) = true) (h0 : 0 ≤ E.I ρ i) (h1 : E.I ρ i < E.I ρ (.fn 0 l)) (hm : E.I ρ i + E.I ρ j < 1000000) (hj : 0 ≤ E.I ρ j)
    (h2 : -9223372036854775808 ≤ E.I ρ (.fn 1 (.pr l i))) (h3 : E.I ρ (.fn 1 (.pr l i)) ≤ 9223372036854775807) (hv : E.I ρ v = E.I ρ (.fn 32 (.pr m (.pr (.fn 1 (.pr l i)) (.int 0)))) + 1) (hi : E.I ρ i' = E.I ρ i + 1) :
    E.B ρ (.fn 140 (.pr (.fn 34 (.pr m (.pr (.fn 1 (.pr l i)) v))) (.pr l (.pr i' (.pr x j))))) = true := by
  rw [z140] at *
  rw [I_nth] at h2 h3
  rw [I_mget, I_nth] at hv
  have hi : (E.I ρ i').toNat = (E.I ρ i).toNat + 1 := by omega
  rw [← ints_len] at h1
  rw [hi, L_mput, I_nth]
  exact cntOk_add h (by omega) (by omega) h2 h3 hv
theorem t140_sub (h : E.B ρ (.fn 140 (.pr m (.pr l (.pr i (.pr x j))))) = true) (h0 : 0 ≤ E.I ρ j) (h1 : E.I ρ j < E.I ρ (.fn 0 x)) (hm : E.I ρ i + E.I ρ j < 1000000) (hj : 0 ≤ E.I ρ i)
    (h2 : -9223372036854775808 ≤ E.I ρ (.fn 1 (.pr x j))) (h3 : E.I ρ (.fn 1 (.pr x j)) ≤ 9223372036854775807) (hv : E.I ρ v = E.I ρ (.fn 32 (.pr m (.pr (.fn 1 (.pr x j)) (.int 0)))) - 1) (hi : E.I ρ j' = E.I ρ j + 1) :
    E.B ρ (.fn 140 (.pr (.fn 34 (.pr m (.pr (.fn 1 (.pr x j)) v))) (.pr l (.pr i (.pr x j'))))) = true := by
  rw [z140] at *
  rw [I_nth] at h2 h3
  rw [I_mget, I_nth] at hv
  have hi : (E.I ρ j').toNat = (E.I ρ j).toNat + 1 := by omega
  rw [← ints_len] at h1
  rw [hi, L_mput, I_nth]
  exact cntOk_sub h (by omega) (by omega) h2 h3 hv
theorem t140_end (h : E.B ρ (.fn 140 (.pr m (.pr l (.pr i (.pr x j))))) = true) (h' : E.B ρ (.fn 101 (.pr x (.pr l (.pr A u)))) = true)
    (hi : E.I ρ (.fn 0 l) ≤ E.I ρ i) (hj : E.I ρ (.fn 0 x) ≤ E.I ρ j) (hk : E.B ρ (.fn 33 (.pr m k)) = true) : E.I ρ (.fn 32 (.pr m (.pr k (.int 0)))) = 0 := by
  rw [z140, cntOk_iff] at h
  rw [z101] at h'
  have hk : (mfind (E.I ρ k) (E.L ρ m)).isSome = true := hk
  rw [← ints_len] at hi hj
  rw [I_mget, h.2.2 _ (Or.inr (Or.inr (mfind_mem _ _ hk))), List.take_of_length_le (by omega), List.take_of_length_le (by omega)]
  unfold cntI
  rw [h', count_shufM]; omega
theorem t106_sym (h : E.B ρ (.fn 106 (.pr x y)) = true) : E.B ρ (.fn 106 (.pr y x)) = true := by
  rw [z106] at *; exact h.symm
theorem t131_nil0 : E.B ρ (.fn 131 (.fn 10 a)) = true := by
  rw [z131]; intro q hq; cases hq
theorem t131_sub (h : E.B ρ (.fn 131 l) = true) : E.B ρ (.fn 131 (.fn 4 (.pr l (.pr a b)))) = true := by
  rw [z131] at *; rw [ints_sub]
  intro q hq; exact h q (List.mem_of_mem_take (List.mem_of_mem_drop hq))
theorem t111_sub (hn : E.I ρ b = E.I ρ (.fn 0 l)) : E.B ρ (.fn 111 (.pr (.fn 4 (.pr l (.pr a b))) (.pr l a))) = true := by
  rw [z111, ints_sub]
  have e : (E.I ρ b).toNat = (ints ρ l).length := by rw [hn, ← ints_len]; omega
  rw [e, List.take_length]
theorem t111_end (h : E.I ρ (.fn 0 l) ≤ E.I ρ u) : E.B ρ (.fn 111 (.pr (.fn 10 a) (.pr l u))) = true := by
  rw [z111, ints_nil]
  rw [← ints_len] at h
  exact (List.drop_eq_nil_of_le (by omega)).symm
theorem t27_elem (h : E.B ρ (.fn 27 (.pr (.fn 23 (.pr (.int 3) (.fn 23 (.pr (.int 3) (.fn 23 (.pr (.int 3) (.fn 23 (.pr (.fn 23 (.pr (.int 3) (.fn 10 (.int 0)))) (.fn 10 (.int 0)))))))))) l)) = true) (hi : 0 ≤ E.I ρ i) :
    ∀ y ∈ ints ρ (.fn 1 (.pr l (.fn 6 (.pr (.fn 8 (.pr i (.int 4))) (.int 3))))), -9223372036854775808 ≤ y ∧ y ≤ 9223372036854775807 := by
  have h' : U.typs (E.L ρ l) [.int 3, .int 3, .int 3, .lst [.int 3]] ([U.int 3, .int 3, .int 3, .lst [.int 3]].drop 4) = true := h
  intro y hy
  have e3 := rowE (ρ := ρ) (i := i) (t := 3) hi (by omega)
  have f : E.L ρ (.fn 1 (.pr l (.fn 6 (.pr (.fn 8 (.pr i (.int 4))) (.int 3))))) = ((E.L ρ l).getD (E.I ρ (.fn 6 (.pr (.fn 8 (.pr i (.int 4))) (.int 3)))).toNat (.int 0)).toL := rfl
  unfold ints at hy
  rw [f, e3, List.getD_eq_getElem?_getD] at hy
  cases hc : (E.L ρ l)[4 * (E.I ρ i).toNat + (3 : Int).toNat]? with
  | none => rw [hc] at hy; cases hy
  | some u =>
    rw [hc] at hy
    obtain ⟨k, hk, ht⟩ := typs_get (ks := [.int 3, .int 3, .int 3, .lst [.int 3]]) (E.L ρ l) 4 (Nat.le_refl 4) h' _ u hc
    have hm : (4 + (4 * (E.I ρ i).toNat + (3 : Int).toNat)) % [U.int 3, .int 3, .int 3, .lst [.int 3]].length = 3 := by
      simp only [List.length_cons, List.length_nil]
      have : (3 : Int).toNat = 3 := rfl
      omega
    rw [hm] at hk
    have hk' : k = .lst [.int 3] := by simpa using hk.symm
    subst hk'
    obtain ⟨w, hw, rfl⟩ := List.mem_map.1 hy
    cases u with
    | bx ad n c l' =>
      have ht' : U.typs l' [.int 3] ([U.int 3].drop 1) = true := ht
      obtain ⟨n, hn⟩ := List.getElem?_of_mem (show w ∈ l' from hw)
      obtain ⟨k, hk, hw'⟩ := typs_get (ks := [.int 3]) l' 1 (Nat.le_refl 1) ht' n w hn
      have hk7 : k = .int 3 := by
        simp only [List.length_singleton, Nat.mod_one] at hk
        simpa using hk.symm
      subst hk7
      cases w <;> simp_all [U.typ, kindLo, kindHi, U.toI]
    | int _ => simp [U.typ] at ht
    | bool _ => simp [U.typ] at ht
    | str _ => simp [U.typ] at ht
    | lst _ => simp [U.typ] at ht
theorem rng_l (h : E.B ρ (.fn 27 (.pr (.fn 23 (.pr (.int 3) (.fn 23 (.pr (.int 3) (.fn 23 (.pr (.int 3) (.fn 23 (.pr (.fn 23 (.pr (.int 3) (.fn 10 (.int 0)))) (.fn 10 (.int 0)))))))))) l)) = true) (hi : 0 ≤ E.I ρ i) (t : E) :
    -9223372036854775808 ≤ E.I ρ (.fn 1 (.pr (.fn 1 (.pr l (.fn 6 (.pr (.fn 8 (.pr i (.int 4))) (.int 3))))) t)) ∧ E.I ρ (.fn 1 (.pr (.fn 1 (.pr l (.fn 6 (.pr (.fn 8 (.pr i (.int 4))) (.int 3))))) t)) ≤ 9223372036854775807 := by
  have hh := t27_elem h hi
  rw [I_nth, List.getD_eq_getElem?_getD]
  cases hc : (ints ρ (.fn 1 (.pr l (.fn 6 (.pr (.fn 8 (.pr i (.int 4))) (.int 3))))))[(E.I ρ t).toNat]? with
  | none => simp
  | some v => exact hh v (List.mem_of_getElem? hc)
theorem rng_x (h : E.B ρ (.fn 27 (.pr (.fn 23 (.pr (.int 3) (.fn 23 (.pr (.int 3) (.fn 23 (.pr (.int 3) (.fn 23 (.pr (.fn 23 (.pr (.int 3) (.fn 10 (.int 0)))) (.fn 10 (.int 0)))))))))) l)) = true) (hi : 0 ≤ E.I ρ i)
    (h1 : E.B ρ (.fn 101 (.pr x (.pr (.fn 1 (.pr l (.fn 6 (.pr (.fn 8 (.pr i (.int 4))) (.int 3))))) (.pr A u)))) = true) (t : E) :
    -9223372036854775808 ≤ E.I ρ (.fn 1 (.pr x t)) ∧ E.I ρ (.fn 1 (.pr x t)) ≤ 9223372036854775807 := by
  have hh := t27_elem h hi
  rw [z101] at h1
  rw [I_nth, List.getD_eq_getElem?_getD]
  cases hc : (ints ρ x)[(E.I ρ t).toNat]? with
  | none => simp
  | some v =>
    have hm := List.mem_of_getElem? hc
    have : 0 < (ints ρ x).count v := List.count_pos_iff.2 hm
    rw [h1, count_shufM] at this
    exact hh v (List.count_pos_iff.1 this)
theorem t102_ok (h : E.B ρ (.fn 102 (.pr x (.pr m (.pr b (.pr A u))))) = true) (hm : E.I ρ m ≤ E.I ρ b) {t : E} (h0 : 0 ≤ E.I ρ t) (h1 : E.I ρ t < E.I ρ (.fn 0 x)) :
    0 ≤ E.I ρ (.fn 1 (.pr x t)) ∧ E.I ρ (.fn 1 (.pr x t)) < max (E.I ρ b) 0 := by
  rw [z102] at h
  rw [← ints_len] at h1
  have hh := (pickM_ok (E.I ρ m).toNat (E.I ρ b).toNat ((ints ρ A).drop (E.I ρ u).toNat) (by omega)).2 ((ints ρ x).getD (E.I ρ t).toNat 0) (by rw [← h]; exact getD_mem _ _ (by omega))
  rw [I_nth]; omega
theorem t102_lt (h : E.B ρ (.fn 102 (.pr x (.pr m (.pr b (.pr A u))))) = true) (hm : E.I ρ m ≤ E.I ρ b) {t s : E} (h0 : 0 ≤ E.I ρ s) (hs : E.I ρ s < E.I ρ t) (h1 : E.I ρ t < E.I ρ (.fn 0 x)) :
    E.I ρ (.fn 1 (.pr x s)) < E.I ρ (.fn 1 (.pr x t)) := by
  rw [z102] at h
  rw [← ints_len] at h1
  have hh := (pickM_ok (E.I ρ m).toNat (E.I ρ b).toNat ((ints ρ A).drop (E.I ρ u).toNat) (by omega)).1
  rw [← h, List.pairwise_iff_getElem] at hh
  have a1 : (E.I ρ s).toNat < (ints ρ x).length := by omega
  have a2 : (E.I ρ t).toNat < (ints ρ x).length := by omega
  have := hh _ _ a1 a2 (by omega)
  rw [I_nth, I_nth, List.getD_eq_getElem?_getD, List.getD_eq_getElem?_getD, List.getElem?_eq_getElem a1, List.getElem?_eq_getElem a2]
  exact this
end
end Go.SX


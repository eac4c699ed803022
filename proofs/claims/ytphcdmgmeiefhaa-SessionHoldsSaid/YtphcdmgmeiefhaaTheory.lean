/-
  Sessions: what the program holds is what the reference and the law hold (plain Lean).
-/
import Derived.Test.YtphcdmgmeiefhaaNat
set_option linter.unusedVariables false
set_option linter.unusedSimpArgs false
namespace Go.SX
/-! ### Maps as lists of pairs -/
def keysU (M : List U) : List Int := M.map fun u => u.fst.toI
theorem mfind_mem {x : Int} {v : U} : ∀ {M : List U}, mfind x M = some v → ∃ u ∈ M, u.fst.toI = x ∧ u.snd = v
  | [], h => by simp [mfind] at h
  | u :: M, h => by
    by_cases hx : u.fst.toI = x
    · simp only [mfind, if_pos hx, Option.some.injEq] at h
      exact ⟨u, by simp, hx, h⟩
    · simp only [mfind, if_neg hx] at h
      obtain ⟨w, h1, h2⟩ := mfind_mem h
      exact ⟨w, List.mem_cons_of_mem _ h1, h2⟩
theorem mfind_of_mem : ∀ {M : List U}, (keysU M).Nodup → ∀ u ∈ M, mfind u.fst.toI M = some u.snd
  | [], _, u, h => by cases h
  | w :: M, hn, u, h => by
    simp only [keysU, List.map_cons, List.nodup_cons] at hn
    by_cases hx : w.fst.toI = u.fst.toI
    · rcases List.mem_cons.1 h with rfl | hm
      · simp [mfind]
      · exact absurd (List.mem_map_of_mem (f := fun u : U => u.fst.toI) hm) (by rw [← hx]; exact hn.1)
    · rcases List.mem_cons.1 h with rfl | hm
      · exact absurd rfl hx
      · simp only [mfind, if_neg hx]
        exact mfind_of_mem hn.2 u hm
theorem mfind_none {x : Int} : ∀ {M : List U}, mfind x M = none ↔ x ∉ keysU M
  | [] => by simp [mfind, keysU]
  | u :: M => by
    by_cases hx : u.fst.toI = x
    · simp [mfind, hx, keysU]
    · have hx' : ¬ x = u.fst.toI := fun e => hx e.symm
      simp only [mfind, if_neg hx, mfind_none, keysU, List.map_cons, List.mem_cons, hx', false_or]
theorem mfind_put (x y : Int) (v : U) : ∀ M : List U, mfind x (mput y v M) = if x = y then some v else mfind x M
  | [] => by
    by_cases h : x = y
    · simp [mput, mfind, U.fst, U.snd, U.toI, h]
    · have : ¬ y = x := fun e => h e.symm
      simp [mput, mfind, U.fst, U.toI, h, this]
  | u :: M => by
    by_cases hy : u.fst.toI = y
    · rw [mput, if_pos hy]
      by_cases h : x = y
      · rw [if_pos h, mfind, if_pos (show (U.lst [U.int y, v]).fst.toI = x from h.symm)]; rfl
      · have h1 : ¬ (U.lst [U.int y, v]).fst.toI = x := fun e => h e.symm
        have h2 : ¬ u.fst.toI = x := fun e => h (by rw [← e, hy])
        rw [if_neg h, mfind, if_neg h1, mfind, if_neg h2]
    · rw [mput, if_neg hy]
      by_cases h : u.fst.toI = x
      · have h' : ¬ x = y := fun e => hy (by rw [h, e])
        rw [if_neg h', mfind, if_pos h, mfind, if_pos h]
      · rw [mfind, if_neg h, mfind_put x y v M, mfind, if_neg h]
theorem keys_put (y : Int) (v : U) : ∀ M : List U, keysU (mput y v M) = if y ∈ keysU M then keysU M else keysU M ++ [y]
  | [] => rfl
  | u :: M => by
    by_cases hy : u.fst.toI = y
    · rw [mput, if_pos hy]
      have e : keysU (u :: M) = y :: keysU M := by simp only [keysU, List.map_cons, hy]
      have e2 : keysU (.lst [.int y, v] :: M) = y :: keysU M := rfl
      rw [e, e2, if_pos (by simp)]
    · have hy' : ¬ y = u.fst.toI := fun e => hy e.symm
      rw [mput, if_neg hy]
      have ih := keys_put y v M
      simp only [keysU, List.map_cons] at ih ⊢
      rw [ih]
      by_cases hm : y ∈ List.map (fun u => u.fst.toI) M
      · simp [hm]
      · simp [hm, hy']
theorem nodup_put {y : Int} {v : U} {M : List U} (h : (keysU M).Nodup) : (keysU (mput y v M)).Nodup := by
  rw [keys_put]
  split
  · exact h
  · rename_i hm
    rw [List.nodup_append]
    refine ⟨h, by simp, fun a ha b hb e => ?_⟩
    simp only [List.mem_singleton] at hb
    subst hb; subst e; exact hm ha
theorem mdel_sub (y : Int) : ∀ M : List U, (mdel y M).Sublist M
  | [] => by simp [mdel]
  | u :: M => by
    by_cases hy : u.fst.toI = y
    · rw [mdel, if_pos hy]; exact List.sublist_cons_self _ _
    · rw [mdel, if_neg hy]; exact (mdel_sub y M).cons_cons _
theorem nodup_del {y : Int} {M : List U} (h : (keysU M).Nodup) : (keysU (mdel y M)).Nodup := h.sublist ((mdel_sub y M).map _)
theorem mfind_del {x y : Int} : ∀ {M : List U}, (keysU M).Nodup → mfind x (mdel y M) = if x = y then none else mfind x M
  | [], _ => by simp [mdel, mfind]
  | u :: M, h => by
    simp only [keysU, List.map_cons, List.nodup_cons] at h
    by_cases hy : u.fst.toI = y
    · rw [mdel, if_pos hy]
      by_cases hx : x = y
      · rw [if_pos hx, mfind_none]; rw [hx, ← hy]; exact h.1
      · have : ¬ u.fst.toI = x := fun e => hx (by rw [← e, hy])
        rw [if_neg hx, mfind, if_neg this]
    · rw [mdel, if_neg hy]
      by_cases hu : u.fst.toI = x
      · have hx : ¬ x = y := fun e => hy (by rw [hu, e])
        rw [if_neg hx, mfind, if_pos hu, mfind, if_pos hu]
      · rw [mfind, if_neg hu, mfind_del h.2, mfind, if_neg hu]

/-! ### Connections -/
/-- the one open connection of a player, or -1 -/
def isConn (p : Int) (R : List U) (c d : Int) : Prop :=
  (c = -1 ∨ (0 ≤ c ∧ c < d ∧ o30 R c.toNat = true ∧ p30 R c.toNat = p)) ∧ ∀ k : Int, 0 ≤ k → k < d → o30 R k.toNat = true → p30 R k.toNat = p → k = c
structure Rel (M R : List U) (c0 c1 d : Int) : Prop where
  d0 : 0 ≤ d
  len : R.length = 2 * d.toNat
  nd : (keysU M).Nodup
  f1 : ∀ x v, mfind x M = some v → 0 ≤ x ∧ x < d ∧ o30 R x.toNat = true ∧ v.toI = p30 R x.toNat
  f2 : ∀ x, 0 ≤ x → x < d → o30 R x.toNat = true → ∃ v, mfind x M = some v
  pl : ∀ k : Int, 0 ≤ k → k < d → -1 ≤ p30 R k.toNat ∧ p30 R k.toNat ≤ 1
  i0 : isConn 0 R c0 d
  i1 : isConn 1 R c1 d
theorem o30_cons (a b : U) (l : List U) (k : Nat) : o30 (a :: b :: l) (k + 1) = o30 l k := by
  unfold o30; rw [show 2 * (k + 1) = 2 * k + 1 + 1 by omega]; simp
theorem p30_cons (a b : U) (l : List U) (k : Nat) : p30 (a :: b :: l) (k + 1) = p30 l k := by
  unfold p30; rw [show 2 * (k + 1) + 1 = 2 * k + 1 + 1 + 1 by omega]; simp
/-- the first one, from place i on -/
theorem conn30_spec (p : Int) : ∀ (n : Nat) (l : List U) (i : Int), l.length = 2 * n →
    (conn30 p l i = -1 ∧ ∀ k, k < n → ¬ (o30 l k = true ∧ p30 l k = p)) ∨
    (∃ k, k < n ∧ conn30 p l i = i + k ∧ o30 l k = true ∧ p30 l k = p ∧ ∀ j, j < k → ¬ (o30 l j = true ∧ p30 l j = p))
  | 0, l, i, h => by
    have : l = [] := List.length_eq_zero_iff.1 (by omega)
    subst this
    exact .inl ⟨rfl, fun k hk => by omega⟩
  | n + 1, [], i, h => by simp at h
  | n + 1, [a], i, h => by simp at h; omega
  | n + 1, a :: b :: l, i, h => by
    simp only [conn30]
    by_cases hc : (a.toB && b.toI == p) = true
    · rw [if_pos hc]
      simp only [Bool.and_eq_true, beq_iff_eq] at hc
      exact .inr ⟨0, by omega, by simp, hc.1, hc.2, fun j hj => by omega⟩
    · rw [if_neg hc]
      have h0 : ¬ (o30 (a :: b :: l) 0 = true ∧ p30 (a :: b :: l) 0 = p) := by
        exact fun hh => hc (by simp only [Bool.and_eq_true, beq_iff_eq]; exact hh)
      rcases conn30_spec p n l (i + 1) (by simp at h; omega) with ⟨h1, h2⟩ | ⟨k, h1, h2, h3, h4, h5⟩
      · refine .inl ⟨h1, fun k hk => ?_⟩
        cases k with
        | zero => exact h0
        | succ k => rw [o30_cons, p30_cons]; exact h2 k (by omega)
      · refine .inr ⟨k + 1, by omega, by rw [h2]; simp; omega, by rw [o30_cons]; exact h3, by rw [p30_cons]; exact h4, fun j hj => ?_⟩
        cases j with
        | zero => exact h0
        | succ j => rw [o30_cons, p30_cons]; exact h5 j (by omega)
theorem isConn.eq {p : Int} {R : List U} {c d : Int} (h : isConn p R c d) (hd : 0 ≤ d) (hl : R.length = 2 * d.toNat) : c = conn30 p R 0 := by
  rcases conn30_spec p d.toNat R 0 hl with ⟨h1, h2⟩ | ⟨k, h1, h2, h3, h4, _⟩
  · rw [h1]
    rcases h.1 with h | ⟨g1, g2, g3, g4⟩
    · exact h
    · exact absurd ⟨g3, g4⟩ (h2 _ (by omega))
  · rw [h2]
    have := h.2 (k : Int) (by omega) (by omega) (by simpa using h3) (by simpa using h4)
    omega
theorem conn30_is {p : Int} {R : List U} {d : Int} (hd : 0 ≤ d) (hl : R.length = 2 * d.toNat) (hu : ∀ k : Int, 0 ≤ k → k < d → o30 R k.toNat = true → p30 R k.toNat = p → conn30 p R 0 = k) : isConn p R (conn30 p R 0) d := by
  refine ⟨?_, fun k h1 h2 h3 h4 => (hu k h1 h2 h3 h4).symm⟩
  rcases conn30_spec p d.toNat R 0 hl with ⟨h1, _⟩ | ⟨k, h1, h2, h3, h4, _⟩
  · exact .inl h1
  · right
    rw [h2]
    have e : (0 + (k : Int)).toNat = k := by omega
    rw [e]
    exact ⟨by omega, by omega, h3, h4⟩
theorem rel_iff {M R : List U} {c0 c1 d : Int} : rel30 M R c0 c1 d = true ↔ Rel M R c0 c1 d := by
  constructor
  · intro h
    unfold rel30 at h
    simp only [Bool.and_eq_true, decide_eq_true_eq, List.all_eq_true, List.mem_range, Bool.or_eq_true, Bool.not_eq_true', Option.isSome_iff_exists, decide_eq_false_iff_not] at h
    obtain ⟨⟨⟨⟨⟨⟨⟨⟨h1, h2⟩, h3⟩, h4⟩, h5⟩, h6⟩, h7⟩, h8⟩, h9⟩ := h
    have q : ∀ x : Int, 0 ≤ x → ((x.toNat : Nat) : Int) = x := fun x hx => by omega
    refine ⟨h1, h2, h3, fun x v hv => ?_, fun x g1 g2 g3 => ?_, fun k g1 g2 => ?_, ?_, ?_⟩
    · obtain ⟨u, hu, rfl, rfl⟩ := mfind_mem hv
      obtain ⟨⟨g1, g2⟩, g3⟩ := h4 u hu
      exact ⟨g1.1, g1.2, g2, g3⟩
    · rcases h5 x.toNat (by omega) with g | g
      · rw [g3] at g; cases g
      · rwa [q x g1] at g
    · exact h8 k.toNat (by omega)
    · rw [h6]
      refine conn30_is h1 h2 fun k g1 g2 g3 g4 => ?_
      rcases h9 k.toNat (by omega) with g | ⟨g, _⟩
      · rw [g3] at g; cases g
      · rcases g with g | g
        · exact absurd g4 g
        · rw [← h6, g, q k g1]
    · rw [h7]
      refine conn30_is h1 h2 fun k g1 g2 g3 g4 => ?_
      rcases h9 k.toNat (by omega) with g | ⟨_, g⟩
      · rw [g3] at g; cases g
      · rcases g with g | g
        · exact absurd g4 g
        · rw [← h7, g, q k g1]
  · intro h
    unfold rel30
    simp only [Bool.and_eq_true, decide_eq_true_eq, List.all_eq_true, List.mem_range, Bool.or_eq_true, Bool.not_eq_true', Option.isSome_iff_exists, decide_eq_false_iff_not]
    refine ⟨⟨⟨⟨⟨⟨⟨⟨h.d0, h.len⟩, h.nd⟩, fun u hu => ?_⟩, fun k hk => ?_⟩, h.i0.eq h.d0 h.len⟩, h.i1.eq h.d0 h.len⟩, fun k hk => ?_⟩, fun k hk => ?_⟩
    · obtain ⟨g1, g2, g3, g4⟩ := h.f1 _ _ (mfind_of_mem h.nd u hu)
      exact ⟨⟨⟨g1, g2⟩, g3⟩, g4⟩
    · cases ho : o30 R k with
      | false => exact .inl rfl
      | true => exact .inr (h.f2 k (by omega) (by omega) (by simpa using ho))
    · have := h.pl k (by omega) (by omega)
      simpa using this
    · cases ho : o30 R k with
      | false => exact .inl rfl
      | true =>
        right
        constructor
        · by_cases hp : p30 R k = 0
          · exact .inr (h.i0.2 k (by omega) (by omega) (by simpa using ho) (by simpa using hp)).symm
          · exact .inl hp
        · by_cases hp : p30 R k = 1
          · exact .inr (h.i1.2 k (by omega) (by omega) (by simpa using ho) (by simpa using hp)).symm
          · exact .inl hp

/-! ### What changes -/
theorem o30_app (R : List U) (n : Nat) (hl : R.length = 2 * n) (a b : U) (k : Nat) : o30 (R ++ [a, b]) k = if k < n then o30 R k else if k = n then a.toB else false := by
  unfold o30
  by_cases h : k < n
  · rw [if_pos h]; simp only [List.getD]; rw [List.getElem?_append_left (by omega)]
  · rw [if_neg h]
    by_cases e : k = n
    · subst e; rw [if_pos rfl]; simp only [List.getD]; rw [List.getElem?_append_right (by omega), hl]; simp
    · rw [if_neg e]; simp only [List.getD]; rw [List.getElem?_eq_none (by simp; omega)]; rfl
theorem p30_app (R : List U) (n : Nat) (hl : R.length = 2 * n) (a b : U) (k : Nat) : p30 (R ++ [a, b]) k = if k < n then p30 R k else if k = n then b.toI else 0 := by
  unfold p30
  by_cases h : k < n
  · rw [if_pos h]; simp only [List.getD]; rw [List.getElem?_append_left (by omega)]
  · rw [if_neg h]
    by_cases e : k = n
    · subst e; rw [if_pos rfl]; simp only [List.getD]; rw [List.getElem?_append_right (by omega), hl]; simp
    · rw [if_neg e]; simp only [List.getD]; rw [List.getElem?_eq_none (by simp; omega)]; rfl
theorem o30_set0 (R : List U) (j : Nat) (v : U) (k : Nat) (hj : 2 * j < R.length) : o30 (R.set (2 * j) v) k = if k = j then v.toB else o30 R k := by
  unfold o30
  simp only [List.getD, List.getElem?_set]
  by_cases h : k = j
  · subst h; simp [hj]
  · have : ¬ 2 * j = 2 * k := by omega
    simp [h, this]
theorem p30_set0 (R : List U) (j : Nat) (v : U) (k : Nat) : p30 (R.set (2 * j) v) k = p30 R k := by
  unfold p30
  simp only [List.getD, List.getElem?_set]
  have : ¬ 2 * j = 2 * k + 1 := by omega
  simp [this]
theorem o30_set1 (R : List U) (j : Nat) (v : U) (k : Nat) : o30 (R.set (2 * j + 1) v) k = o30 R k := by
  unfold o30
  simp only [List.getD, List.getElem?_set]
  have : ¬ 2 * j + 1 = 2 * k := by omega
  simp [this]
theorem p30_set1 (R : List U) (j : Nat) (v : U) (k : Nat) (hj : 2 * j + 1 < R.length) : p30 (R.set (2 * j + 1) v) k = if k = j then v.toI else p30 R k := by
  unfold p30
  simp only [List.getD, List.getElem?_set]
  by_cases h : k = j
  · subst h; simp [hj]
  · have : ¬ 2 * j + 1 = 2 * k + 1 := by omega
    rw [if_neg this, if_neg h]
/-- relations of rows that are the same but for what is told -/
theorem Rel.change {M M' R R' : List U} {c0 c1 c0' c1' d d' : Int} (h : Rel M R c0 c1 d) (o' : Int → Bool) (p' : Int → Int) (f' : Int → Option U)
    (hd : d ≤ d') (hl : R'.length = 2 * d'.toNat) (ho : ∀ k : Int, 0 ≤ k → k < d' → o30 R' k.toNat = o' k) (hp : ∀ k : Int, 0 ≤ k → k < d' → p30 R' k.toNat = p' k)
    (hn : (keysU M').Nodup) (hf : ∀ x, mfind x M' = f' x)
    (g1 : ∀ x v, f' x = some v → 0 ≤ x ∧ x < d' ∧ o' x = true ∧ v.toI = p' x) (g2 : ∀ x, 0 ≤ x → x < d' → o' x = true → ∃ v, f' x = some v)
    (g3 : ∀ k, 0 ≤ k → k < d' → -1 ≤ p' k ∧ p' k ≤ 1)
    (a0 : (c0' = -1 ∨ (0 ≤ c0' ∧ c0' < d' ∧ o' c0' = true ∧ p' c0' = 0)) ∧ ∀ k, 0 ≤ k → k < d' → o' k = true → p' k = 0 → k = c0')
    (a1 : (c1' = -1 ∨ (0 ≤ c1' ∧ c1' < d' ∧ o' c1' = true ∧ p' c1' = 1)) ∧ ∀ k, 0 ≤ k → k < d' → o' k = true → p' k = 1 → k = c1') : Rel M' R' c0' c1' d' := by
  have hd0 := h.d0
  refine ⟨by omega, hl, hn, fun x v hv => ?_, fun x k1 k2 k3 => ?_, fun k k1 k2 => ?_, ?_, ?_⟩
  · rw [hf] at hv
    obtain ⟨k1, k2, k3, k4⟩ := g1 x v hv
    exact ⟨k1, k2, by rw [ho x k1 k2]; exact k3, by rw [hp x k1 k2]; exact k4⟩
  · rw [ho x k1 k2] at k3
    rw [hf]; exact g2 x k1 k2 k3
  · rw [hp k k1 k2]; exact g3 k k1 k2
  · refine ⟨a0.1.imp id fun ⟨k1, k2, k3, k4⟩ => ⟨k1, k2, by rw [ho _ k1 k2]; exact k3, by rw [hp _ k1 k2]; exact k4⟩, fun k k1 k2 k3 k4 => ?_⟩
    rw [ho k k1 k2] at k3; rw [hp k k1 k2] at k4
    exact a0.2 k k1 k2 k3 k4
  · refine ⟨a1.1.imp id fun ⟨k1, k2, k3, k4⟩ => ⟨k1, k2, by rw [ho _ k1 k2]; exact k3, by rw [hp _ k1 k2]; exact k4⟩, fun k k1 k2 k3 k4 => ?_⟩
    rw [ho k k1 k2] at k3; rw [hp k k1 k2] at k4
    exact a1.2 k k1 k2 k3 k4
/-- one connection more -/
theorem Rel.open1 {M R : List U} {c0 c1 d : Int} (h : Rel M R c0 c1 d) : Rel (mput d (.int (-1)) M) (R ++ [.bool true, .int (-1)]) c0 c1 (d + 1) := by
  have hd := h.d0
  have hl := h.len
  refine h.change (fun k => if k < d then o30 R k.toNat else true) (fun k => if k < d then p30 R k.toNat else -1) (fun x => if x = d then some (.int (-1)) else mfind x M) (by omega) (by simp; omega) ?_ ?_ (nodup_put h.nd) (fun x => mfind_put _ _ _ _) ?_ ?_ ?_ ?_ ?_
  · intro k h1 h2
    rw [o30_app R d.toNat hl]
    by_cases e : k < d
    · rw [if_pos e, if_pos (by omega)]
    · rw [if_neg e, if_neg (by omega), if_pos (by omega)]; rfl
  · intro k h1 h2
    rw [p30_app R d.toNat hl]
    by_cases e : k < d
    · rw [if_pos e, if_pos (by omega)]
    · rw [if_neg e, if_neg (by omega), if_pos (by omega)]; rfl
  · intro x v hv
    by_cases e : x = d
    · rw [if_pos e] at hv
      simp only [Option.some.injEq] at hv; subst hv
      have : ¬ x < d := by omega
      simp only [this, if_false]
      exact ⟨by omega, by omega, trivial, rfl⟩
    · rw [if_neg e] at hv
      obtain ⟨k1, k2, k3, k4⟩ := h.f1 x v hv
      simp only [if_pos k2]
      exact ⟨k1, by omega, k3, k4⟩
  · intro x h1 h2 h3
    by_cases e : x = d
    · rw [if_pos e]; exact ⟨_, rfl⟩
    · have : x < d := by omega
      simp only [if_pos this] at h3
      rw [if_neg e]; exact h.f2 x h1 this h3
  · intro k h1 h2
    by_cases e : k < d
    · simp only [if_pos e]; exact h.pl k h1 e
    · simp only [if_neg e]; omega
  · refine ⟨h.i0.1.imp id fun ⟨k1, k2, k3, k4⟩ => ⟨k1, by omega, by simp only [if_pos k2]; exact k3, by simp only [if_pos k2]; exact k4⟩, fun k k1 k2 k3 k4 => ?_⟩
    by_cases e : k < d
    · simp only [if_pos e] at k3 k4; exact h.i0.2 k k1 e k3 k4
    · simp only [if_neg e] at k4; omega
  · refine ⟨h.i1.1.imp id fun ⟨k1, k2, k3, k4⟩ => ⟨k1, by omega, by simp only [if_pos k2]; exact k3, by simp only [if_pos k2]; exact k4⟩, fun k k1 k2 k3 k4 => ?_⟩
    by_cases e : k < d
    · simp only [if_pos e] at k3 k4; exact h.i1.2 k k1 e k3 k4
    · simp only [if_neg e] at k4; omega
/-- a connection is closed -/
theorem Rel.close1 {M R : List U} {c0 c1 c0' c1' d k : Int} (h : Rel M R c0 c1 d) (k0 : 0 ≤ k) (k1 : k < d) (ko : o30 R k.toNat = true)
    (e0 : c0' = if p30 R k.toNat = 0 then -1 else c0) (e1 : c1' = if p30 R k.toNat = 1 then -1 else c1) : Rel (mdel k M) (R.set (2 * k.toNat) (.bool false)) c0' c1' d := by
  have hd := h.d0
  have hl := h.len
  refine h.change (fun j => if j = k then false else o30 R j.toNat) (fun j => p30 R j.toNat) (fun x => if x = k then none else mfind x M) (by omega) (by simp; omega) ?_ ?_ (nodup_del h.nd) (fun x => mfind_del h.nd) ?_ ?_ ?_ ?_ ?_
  · intro j h1 h2
    rw [o30_set0 _ _ _ _ (by omega)]
    by_cases e : j = k
    · subst e; simp [U.toB]
    · rw [if_neg e, if_neg (by omega)]
  · intro j h1 h2; rw [p30_set0]
  · intro x v hv
    by_cases e : x = k
    · rw [if_pos e] at hv; cases hv
    · rw [if_neg e] at hv
      simp only [if_neg e]
      exact h.f1 x v hv
  · intro x h1 h2 h3
    by_cases e : x = k
    · simp [if_pos e] at h3
    · simp only [if_neg e] at h3 ⊢
      exact h.f2 x h1 h2 h3
  · intro j h1 h2; exact h.pl j h1 h2
  · constructor
    · rw [e0]
      by_cases hp : p30 R k.toNat = 0
      · rw [if_pos hp]; exact .inl rfl
      · rw [if_neg hp]
        refine h.i0.1.imp id fun ⟨a, b, c, e⟩ => ⟨a, b, ?_, e⟩
        have : ¬ c0 = k := fun q => hp (by rw [← q]; exact e)
        simp only [if_neg this]; exact c
    · intro j h1 h2 h3 h4
      by_cases e : j = k
      · simp [if_pos e] at h3
      · simp only [if_neg e] at h3
        have hj := h.i0.2 j h1 h2 h3 h4
        rw [e0]
        by_cases hp : p30 R k.toNat = 0
        · exact absurd (by rw [hj]; exact (h.i0.2 k k0 k1 ko hp).symm) e
        · rw [if_neg hp]; exact hj
  · constructor
    · rw [e1]
      by_cases hp : p30 R k.toNat = 1
      · rw [if_pos hp]; exact .inl rfl
      · rw [if_neg hp]
        refine h.i1.1.imp id fun ⟨a, b, c, e⟩ => ⟨a, b, ?_, e⟩
        have : ¬ c1 = k := fun q => hp (by rw [← q]; exact e)
        simp only [if_neg this]; exact c
    · intro j h1 h2 h3 h4
      by_cases e : j = k
      · simp [if_pos e] at h3
      · simp only [if_neg e] at h3
        have hj := h.i1.2 j h1 h2 h3 h4
        rw [e1]
        by_cases hp : p30 R k.toNat = 1
        · exact absurd (by rw [hj]; exact (h.i1.2 k k0 k1 ko hp).symm) e
        · rw [if_neg hp]; exact hj
/-- a hello of a player: his old connection is dead -/
theorem Rel.hello {M R R' : List U} {c0 c1 c0' c1' d k p old : Int} (h : Rel M R c0 c1 d) (k0 : 0 ≤ k) (k1 : k < d) (ko : o30 R k.toNat = true) (kp : p30 R k.toNat = -1) (hp : p = 0 ∨ p = 1)
    (hold : old = if p = 0 then c0 else c1) (e0 : c0' = if p = 0 then k else c0) (e1 : c1' = if p = 0 then c1 else k) (hl : R'.length = 2 * d.toNat)
    (ho : ∀ j : Int, 0 ≤ j → j < d → o30 R' j.toNat = if j = k then true else if j = old then false else o30 R j.toNat)
    (hq : ∀ j : Int, 0 ≤ j → j < d → p30 R' j.toNat = if j = k then p else p30 R j.toNat) : Rel (mput k (.int p) (mdel old M)) R' c0' c1' d := by
  have hd := h.d0
  have hik : ¬ old = k := by
    intro e
    rw [hold] at e
    rcases hp with rfl | rfl
    · simp only [if_true] at e
      rcases h.i0.1 with g | ⟨_, _, _, g⟩
      · omega
      · rw [e] at g; rw [g] at kp; omega
    · simp only [if_neg (show ¬ (1 : Int) = 0 by decide)] at e
      rcases h.i1.1 with g | ⟨_, _, _, g⟩
      · omega
      · rw [e] at g; rw [g] at kp; omega
  refine h.change (fun j => if j = k then true else if j = old then false else o30 R j.toNat) (fun j => if j = k then p else p30 R j.toNat) (fun x => if x = k then some (.int p) else if x = old then none else mfind x M) (by omega) hl ho hq (nodup_put (nodup_del h.nd))
    (fun x => by rw [mfind_put, mfind_del h.nd]) ?_ ?_ ?_ ?_ ?_
  · intro x v hv
    by_cases e : x = k
    · rw [if_pos e] at hv
      simp only [Option.some.injEq] at hv; subst hv
      simp only [if_pos e]
      exact ⟨by omega, by omega, trivial, rfl⟩
    · rw [if_neg e] at hv
      by_cases e2 : x = old
      · rw [if_pos e2] at hv; cases hv
      · rw [if_neg e2] at hv
        simp only [if_neg e, if_neg e2]
        exact h.f1 x v hv
  · intro x h1 h2 h3
    by_cases e : x = k
    · rw [if_pos e]; exact ⟨_, rfl⟩
    · simp only [if_neg e] at h3 ⊢
      by_cases e2 : x = old
      · simp [if_pos e2] at h3
      · simp only [if_neg e2] at h3 ⊢
        exact h.f2 x h1 h2 h3
  · intro j h1 h2
    by_cases e : j = k
    · simp only [if_pos e]; omega
    · simp only [if_neg e]; exact h.pl j h1 h2
  · rcases hp with rfl | rfl
    · simp only [if_true] at hold e0
      refine ⟨.inr ⟨by omega, by omega, by simp [e0], by simp [e0]⟩, fun j h1 h2 h3 h4 => ?_⟩
      by_cases e : j = k
      · omega
      · simp only [if_neg e] at h3 h4
        by_cases e2 : j = old
        · simp [if_pos e2] at h3
        · simp only [if_neg e2] at h3
          exact absurd (by rw [hold]; exact h.i0.2 j h1 h2 h3 h4) e2
    · simp only [if_neg (show ¬ (1 : Int) = 0 by decide)] at hold e0
      rw [e0]
      refine ⟨?_, ?_⟩
      refine h.i0.1.imp id fun ⟨a, b, c, g⟩ => ⟨a, b, ?_, ?_⟩
      · have q1 : ¬ c0 = k := fun e => by rw [e] at g; omega
        have q2 : ¬ c0 = old := fun e => by
          rw [e, hold] at g
          rcases h.i1.1 with q | ⟨_, _, _, q⟩
          · omega
          · rw [g] at q; omega
        simp only [if_neg q1, if_neg q2]; exact c
      · have q1 : ¬ c0 = k := fun e => by rw [e] at g; omega
        simp only [if_neg q1]; exact g
      · intro j h1 h2 h3 h4
        by_cases e : j = k
        · simp only [if_pos e] at h4; omega
        · simp only [if_neg e] at h3 h4
          by_cases e2 : j = old
          · simp [if_pos e2] at h3
          · simp only [if_neg e2] at h3
            exact h.i0.2 j h1 h2 h3 h4
  · rcases hp with rfl | rfl
    · simp only [if_true] at hold e1
      rw [e1]
      refine ⟨?_, ?_⟩
      refine h.i1.1.imp id fun ⟨a, b, c, g⟩ => ⟨a, b, ?_, ?_⟩
      · have q1 : ¬ c1 = k := fun e => by rw [e] at g; omega
        have q2 : ¬ c1 = old := fun e => by
          rw [e, hold] at g
          rcases h.i0.1 with q | ⟨_, _, _, q⟩
          · omega
          · rw [g] at q; omega
        simp only [if_neg q1, if_neg q2]; exact c
      · have q1 : ¬ c1 = k := fun e => by rw [e] at g; omega
        simp only [if_neg q1]; exact g
      · intro j h1 h2 h3 h4
        by_cases e : j = k
        · simp only [if_pos e] at h4; omega
        · simp only [if_neg e] at h3 h4
          by_cases e2 : j = old
          · simp [if_pos e2] at h3
          · simp only [if_neg e2] at h3
            exact h.i1.2 j h1 h2 h3 h4
    · simp only [if_neg (show ¬ (1 : Int) = 0 by decide)] at hold e1
      refine ⟨.inr ⟨by omega, by omega, by simp [e1], by simp [e1]⟩, fun j h1 h2 h3 h4 => ?_⟩
      by_cases e : j = k
      · omega
      · simp only [if_neg e] at h3 h4
        by_cases e2 : j = old
        · simp [if_pos e2] at h3
        · simp only [if_neg e2] at h3
          exact absurd (by rw [hold]; exact h.i1.2 j h1 h2 h3 h4) e2
end Go.SX
namespace Go.SX
/-! ### What facts say -/
def oI (L : List U) (k : Int) : Bool := (L.getD (k * 2 + 0).toNat (.int 0)).toB
def pI (L : List U) (k : Int) : Int := (L.getD (k * 2 + 1).toNat (.int 0)).toI
theorem oI_eq {L : List U} {k : Int} (h : 0 ≤ k) : oI L k = o30 L k.toNat := by
  unfold oI o30; rw [show (k * 2 + 0).toNat = 2 * k.toNat by omega]
theorem pI_eq {L : List U} {k : Int} (h : 0 ≤ k) : pI L k = p30 L k.toNat := by
  unfold pI p30; rw [show (k * 2 + 1).toNat = 2 * k.toNat + 1 by omega]
section
variable (ρ : Env) (m r a b c k p i o l v : E) (n : Int) (q : Bool)
theorem d110 : E.B ρ (.fn 110 (.pr m (.pr r (.pr a (.pr b c))))) = rel30 (E.L ρ m) (E.L ρ r) (E.I ρ a) (E.I ρ b) (E.I ρ c) := rfl
theorem d33 : E.B ρ (.fn 33 (.pr m k)) = (mfind (E.I ρ k) (E.L ρ m)).isSome := rfl
theorem d32 : E.I ρ (.fn 32 (.pr m (.pr k (.int 0)))) = ((mfind (E.I ρ k) (E.L ρ m)).getD (.int 0)).toI := rfl
theorem dop : E.B ρ (.fn 1 (.pr r (.fn 6 (.pr (.fn 8 (.pr k (.int 2))) (.int 0))))) = oI (E.L ρ r) (E.I ρ k) := rfl
theorem dpl : E.I ρ (.fn 1 (.pr r (.fn 6 (.pr (.fn 8 (.pr k (.int 2))) (.int 1))))) = pI (E.L ρ r) (E.I ρ k) := rfl
theorem dL34 : E.L ρ (.fn 34 (.pr m (.pr k v))) = mput (E.I ρ k) (E.den ρ v) (E.L ρ m) := rfl
theorem dL35 : E.L ρ (.fn 35 (.pr m k)) = mdel (E.I ρ k) (E.L ρ m) := rfl
theorem dL2 : E.L ρ (.fn 2 (.pr l (.pr i v))) = (E.L ρ l).set (E.I ρ i).toNat (E.den ρ v) := rfl
theorem dL3 : E.L ρ (.fn 3 (.pr a b)) = E.L ρ a ++ E.L ρ b := rfl
theorem dL23 : E.L ρ (.fn 23 (.pr v l)) = E.den ρ v :: E.L ρ l := rfl
theorem dL10 : E.L ρ (.fn 10 v) = [] := rfl
theorem dd_int : E.den ρ (.int n) = .int n := rfl
theorem dd_bool : E.den ρ (.bool q) = .bool q := rfl
theorem d100 : E.I ρ (.fn 100 (.pr r p)) = conn30 (E.I ρ p) (E.L ρ r) 0 := rfl
theorem d101 : E.B ρ (.fn 101 (.pr r (.pr p i))) = before30 (E.I ρ p) (E.I ρ i) (E.L ρ r) 0 := rfl
theorem d103 : (E.B ρ (.fn 103 (.pr r (.pr i o))) = true) = ((nums30 (E.L ρ r) 0).filter (fun k => decide (k < E.I ρ i)) = (E.L ρ o).map U.toI) := by
  show (decide _ = true) = _
  simp only [decide_eq_true_eq]
  rfl
theorem d104 : (E.B ρ (.fn 104 (.pr a b)) = true) = ((E.L ρ a).map U.toI = (E.L ρ b).map U.toI) := by
  show (decide _ = true) = _
  simp only [decide_eq_true_eq]
  rfl
theorem d36 : E.L ρ (.fn 36 m) = (sortU (keysU (E.L ρ m))).map U.int := rfl
theorem d39 : E.B ρ (.fn 39 m) = keysOkU (E.L ρ m) := rfl
theorem d0 : E.I ρ (.fn 0 l) = ((E.L ρ l).length : Int) := rfl
theorem d9 : E.I ρ (.fn 9 (.pr l (.int 2))) = ((E.L ρ l).length : Int) / 2 := rfl
end
section
variable {M R : List U} {c0 c1 d : Int} (h : rel30 M R c0 c1 d = true)
include h
theorem rel_rows : d = (R.length : Int) / 2 := by
  have h := rel_iff.1 h
  have := h.len; have := h.d0
  omega
theorem rel_c0 : c0 = conn30 0 R 0 ∧ -1 ≤ c0 ∧ c0 < d := by
  have h := rel_iff.1 h
  refine ⟨h.i0.eq h.d0 h.len, ?_⟩
  have := h.d0
  rcases h.i0.1 with g | ⟨g1, g2, _⟩ <;> omega
theorem rel_c1 : c1 = conn30 1 R 0 ∧ -1 ≤ c1 ∧ c1 < d := by
  have h := rel_iff.1 h
  refine ⟨h.i1.eq h.d0 h.len, ?_⟩
  have := h.d0
  rcases h.i1.1 with g | ⟨g1, g2, _⟩ <;> omega
theorem rel_look (k : Int) : (mfind k M = none ∧ (0 ≤ k → k < d → oI R k = true → False)) ∨
    ∃ v, mfind k M = some v ∧ 0 ≤ k ∧ k < d ∧ oI R k = true ∧ v.toI = pI R k ∧ -1 ≤ pI R k ∧ pI R k ≤ 1 := by
  have h := rel_iff.1 h
  cases hm : mfind k M with
  | none =>
    refine .inl ⟨rfl, fun h1 h2 h3 => ?_⟩
    rw [oI_eq h1] at h3
    obtain ⟨v, hv⟩ := h.f2 k h1 h2 h3
    rw [hm] at hv; cases hv
  | some v =>
    obtain ⟨h1, h2, h3, h4⟩ := h.f1 k v hm
    have h5 := h.pl k h1 h2
    exact .inr ⟨v, rfl, h1, h2, by rw [oI_eq h1]; exact h3, by rw [pI_eq h1]; exact h4, by rw [pI_eq h1]; exact h5.1, by rw [pI_eq h1]; exact h5.2⟩
theorem rel_open : rel30 (mput d (.int (-1)) M) (R ++ [.bool true, .int (-1)]) c0 c1 (d + 1) = true := rel_iff.2 (rel_iff.1 h).open1
theorem rel_close {k c0' c1' : Int} (k0 : 0 ≤ k) (k1 : k < d) (ko : oI R k = true) (e0 : c0' = if pI R k = 0 then -1 else c0) (e1 : c1' = if pI R k = 1 then -1 else c1) :
    rel30 (mdel k M) (R.set (k * 2 + 0).toNat (.bool false)) c0' c1' d = true := by
  rw [pI_eq k0] at e0 e1
  rw [oI_eq k0] at ko
  rw [show (k * 2 + 0).toNat = 2 * k.toNat by omega]
  exact rel_iff.2 ((rel_iff.1 h).close1 k0 k1 ko e0 e1)
theorem rel_hello {k p old c0' c1' : Int} (k0 : 0 ≤ k) (k1 : k < d) (ko : oI R k = true) (kp : pI R k < 0) (hp : p = 0 ∨ p = 1) (hold : old = if p = 0 then c0 else c1) (ho : 0 ≤ old)
    (e0 : c0' = if p = 0 then k else c0) (e1 : c1' = if p = 0 then c1 else k) :
    rel30 (mput k (.int p) (mdel old M)) ((((R.set (k * 2 + 0).toNat (.bool false)).set (k * 2 + 0).toNat (.bool true)).set (k * 2 + 1).toNat (.int p)).set (old * 2 + 0).toNat (.bool false)) c0' c1' d = true := by
  have hr := rel_iff.1 h
  have hl := hr.len
  rw [pI_eq k0] at kp
  rw [oI_eq k0] at ko
  have kp' : p30 R k.toNat = -1 := by have := hr.pl k k0 k1; omega
  have hold2 : old < d ∧ ¬ old = k := by
    rcases hp with rfl | rfl
    · simp only [if_true] at hold
      rcases hr.i0.1 with g | ⟨g1, g2, g3, g4⟩
      · omega
      · exact ⟨by omega, fun e => by rw [← hold, e] at g4; omega⟩
    · simp only [if_neg (show ¬ (1 : Int) = 0 by decide)] at hold
      rcases hr.i1.1 with g | ⟨g1, g2, g3, g4⟩
      · omega
      · exact ⟨by omega, fun e => by rw [← hold, e] at g4; omega⟩
  rw [show (k * 2 + 0).toNat = 2 * k.toNat by omega, show (k * 2 + 1).toNat = 2 * k.toNat + 1 by omega, show (old * 2 + 0).toNat = 2 * old.toNat by omega]
  refine rel_iff.2 (hr.hello k0 k1 ko kp' hp hold e0 e1 (by simp; omega) (fun j j0 j1 => ?_) (fun j j0 j1 => ?_))
  · rw [o30_set0 _ _ _ _ (by simp; omega), o30_set1, o30_set0 _ _ _ _ (by simp; omega), o30_set0 _ _ _ _ (by omega)]
    by_cases a : j = k
    · subst a
      rw [if_neg (show ¬ j.toNat = old.toNat by omega)]; simp [U.toB]
    · rw [if_neg a]
      by_cases b : j = old
      · subst b; simp [U.toB]
      · rw [if_neg b, if_neg (by omega), if_neg (by omega), if_neg (by omega)]
  · rw [p30_set0, p30_set1 _ _ _ _ (by simp; omega), p30_set0, p30_set0]
    by_cases a : j = k
    · subst a; simp [U.toI]
    · rw [if_neg a, if_neg (by omega)]
theorem rel_hello' {k p old c0' c1' : Int} (k0 : 0 ≤ k) (k1 : k < d) (ko : oI R k = true) (kp : pI R k < 0) (hp : p = 0 ∨ p = 1) (hold : old = if p = 0 then c0 else c1) (ho : old < 0)
    (e0 : c0' = if p = 0 then k else c0) (e1 : c1' = if p = 0 then c1 else k) :
    rel30 (mput k (.int p) (mdel old M)) (((R.set (k * 2 + 0).toNat (.bool false)).set (k * 2 + 0).toNat (.bool true)).set (k * 2 + 1).toNat (.int p)) c0' c1' d = true := by
  have hr := rel_iff.1 h
  have hl := hr.len
  rw [pI_eq k0] at kp
  rw [oI_eq k0] at ko
  have kp' : p30 R k.toNat = -1 := by have := hr.pl k k0 k1; omega
  rw [show (k * 2 + 0).toNat = 2 * k.toNat by omega, show (k * 2 + 1).toNat = 2 * k.toNat + 1 by omega]
  refine rel_iff.2 (hr.hello k0 k1 ko kp' hp hold e0 e1 (by simp; omega) (fun j j0 j1 => ?_) (fun j j0 j1 => ?_))
  · rw [o30_set1, o30_set0 _ _ _ _ (by simp; omega), o30_set0 _ _ _ _ (by omega)]
    by_cases a : j = k
    · subst a; simp [U.toB]
    · rw [if_neg a, if_neg (show ¬ j = old by omega), if_neg (by omega), if_neg (by omega)]
  · rw [p30_set1 _ _ _ _ (by simp; omega), p30_set0, p30_set0]
    by_cases a : j = k
    · subst a; simp [U.toI]
    · rw [if_neg a, if_neg (by omega)]
end
/-! ### The numbers of open connections -/
theorem nums_mem : ∀ (n : Nat) (l : List U) (i x : Int), l.length = 2 * n → (x ∈ nums30 l i ↔ ∃ k : Nat, k < n ∧ x = i + k ∧ o30 l k = true)
  | 0, l, i, x, h => by
    have : l = [] := List.length_eq_zero_iff.1 (by omega)
    subst this
    simp [nums30]
  | n + 1, [], i, x, h => by simp at h
  | n + 1, [a], i, x, h => by simp at h; omega
  | n + 1, a :: b :: l, i, x, h => by
    have ih := nums_mem n l (i + 1) x (by simp at h; omega)
    have h0 : o30 (a :: b :: l) 0 = a.toB := rfl
    have step : (∃ k : Nat, k < n + 1 ∧ x = i + k ∧ o30 (a :: b :: l) k = true) ↔ ((x = i ∧ a.toB = true) ∨ x ∈ nums30 l (i + 1)) := by
      rw [ih]
      constructor
      · rintro ⟨k, h1, h2, h3⟩
        cases k with
        | zero => exact .inl ⟨by simpa using h2, h3⟩
        | succ k => exact .inr ⟨k, by omega, by omega, by rw [o30_cons] at h3; exact h3⟩
      · rintro (⟨h1, h2⟩ | ⟨k, h1, h2, h3⟩)
        · exact ⟨0, by omega, by simpa using h1, h2⟩
        · exact ⟨k + 1, by omega, by omega, by rw [o30_cons]; exact h3⟩
    rw [step]
    simp only [nums30]
    split
    · rename_i hc; simp [hc]
    · rename_i hc; simp [hc]
theorem nums_sorted : ∀ (n : Nat) (l : List U) (i : Int), l.length = 2 * n → (nums30 l i).Pairwise (· < ·)
  | 0, l, i, h => by
    have : l = [] := List.length_eq_zero_iff.1 (by omega)
    subst this
    simp [nums30]
  | n + 1, [], i, h => by simp at h
  | n + 1, [a], i, h => by simp at h; omega
  | n + 1, a :: b :: l, i, h => by
    have hl : l.length = 2 * n := by simp at h; omega
    have ih := nums_sorted n l (i + 1) hl
    simp only [nums30]
    split
    · refine List.pairwise_cons.2 ⟨fun x hx => ?_, ih⟩
      obtain ⟨k, _, h2, _⟩ := (nums_mem n l (i + 1) x hl).1 hx
      omega
    · exact ih
theorem nums_len : ∀ (n : Nat) (l : List U) (i : Int), l.length = 2 * n → (nums30 l i).length ≤ n
  | 0, l, i, h => by
    have : l = [] := List.length_eq_zero_iff.1 (by omega)
    subst this
    simp [nums30]
  | n + 1, [], i, h => by simp at h
  | n + 1, [a], i, h => by simp at h; omega
  | n + 1, a :: b :: l, i, h => by
    have ih := nums_len n l (i + 1) (by simp at h; omega)
    simp only [nums30]
    split
    · simp; omega
    · omega
theorem sortU_perm (l : List Int) : (sortU l).Perm l := by rw [sortU_eq]; exact sortI_perm l
section
variable {M R : List U} {c0 c1 d : Int} (h : rel30 M R c0 c1 d = true)
include h
theorem keys_perm : (keysU M).Perm (nums30 R 0) := by
  have hr := rel_iff.1 h
  refine (List.perm_ext_iff_of_nodup hr.nd ((nums_sorted d.toNat R 0 hr.len).imp fun {a b} h => by omega)).2 fun x => ?_
  rw [nums_mem d.toNat R 0 x hr.len]
  constructor
  · intro hx
    have hx' : ¬ mfind x M = none := fun e => mfind_none.1 e hx
    cases hm : mfind x M with
    | none => exact absurd hm hx'
    | some v =>
      obtain ⟨h1, h2, h3, _⟩ := hr.f1 x v hm
      exact ⟨x.toNat, by omega, by omega, h3⟩
  · rintro ⟨k, h1, h2, h3⟩
    have hx : x.toNat = k := by omega
    obtain ⟨v, hv⟩ := hr.f2 x (by omega) (by omega) (by rw [hx]; exact h3)
    refine Classical.byContradiction fun hn => ?_
    rw [mfind_none.2 hn] at hv; cases hv
theorem rel_sorted : sortU (keysU M) = nums30 R 0 := by
  have hr := rel_iff.1 h
  refine List.Perm.eq_of_pairwise (le := fun a b => Go.leI a b = true) (fun a b _ _ h1 h2 => ?_) (by rw [sortU_eq]; exact sortI_sorted _) ((nums_sorted d.toNat R 0 hr.len).imp fun {a b} h => by simp only [Go.leI, decide_eq_true_eq]; omega)
    ((sortU_perm _).trans (keys_perm h))
  simp only [Go.leI, decide_eq_true_eq] at h1 h2
  omega
theorem rel_keysOk (hd : d ≤ 1000) : keysOkU M = true := by
  have hr := rel_iff.1 h
  have hp := keys_perm h
  have hl := nums_len d.toNat R 0 hr.len
  unfold keysOkU
  simp only [Bool.and_eq_true, decide_eq_true_eq, List.all_eq_true]
  refine ⟨⟨hr.nd, fun u hu => ?_⟩, ?_⟩
  · obtain ⟨h1, h2, _⟩ := hr.f1 _ _ (mfind_of_mem hr.nd u hu)
    omega
  · have := hp.length_eq
    simp only [keysU, List.length_map] at this
    omega
theorem rel_keysLen : (((sortU (keysU M)).map U.int).length : Int) ≤ d := by
  have hr := rel_iff.1 h
  have hl := nums_len d.toNat R 0 hr.len
  have := hr.d0
  rw [rel_sorted h, List.length_map]
  omega
/-- all numbers are below how many there are -/
theorem rel_nums {O : List Int} (ho : (nums30 R 0).filter (fun k => decide (k < d)) = O) : sortU (keysU M) = O := by
  have hr := rel_iff.1 h
  rw [rel_sorted h, ← ho, eq_comm, List.filter_eq_self]
  intro x hx
  obtain ⟨k, h1, h2, _⟩ := (nums_mem d.toNat R 0 x hr.len).1 hx
  simp only [decide_eq_true_eq]
  have := hr.d0
  omega
end
theorem map_int_toI (l : List Int) : (l.map U.int).map U.toI = l := by
  induction l with
  | nil => rfl
  | cons x l ih =>
    simp only [List.map_cons]
    rw [ih]
    rfl
/-! ### Ahead of a row -/
theorem before_iff (p i : Int) : ∀ (n : Nat) (l : List U) (s : Int), l.length = 2 * n → (before30 p i l s = true ↔ ∀ k : Nat, k < n → s + k < i → ¬ (o30 l k = true ∧ p30 l k = p))
  | 0, l, s, h => by
    have : l = [] := List.length_eq_zero_iff.1 (by omega)
    subst this
    simp [before30]
  | n + 1, [], s, h => by simp at h
  | n + 1, [a], s, h => by simp at h; omega
  | n + 1, a :: b :: l, s, h => by
    have ih := before_iff p i n l (s + 1) (by simp at h; omega)
    simp only [before30, Bool.and_eq_true, ih, Bool.or_eq_true, decide_eq_true_eq, Bool.not_eq_true', Bool.and_eq_false_imp]
    constructor
    · rintro ⟨h1, h2⟩ k hk hs
      cases k with
      | zero =>
        rintro ⟨g1, g2⟩
        rcases h1 with h1 | h1
        · simp at hs; omega
        · have := h1 g1
          simp only [beq_eq_false_iff_ne, ne_eq] at this
          exact this g2
      | succ k => rw [o30_cons, p30_cons]; exact h2 k (by omega) (by omega)
    · intro hh
      refine ⟨?_, fun k hk hs => ?_⟩
      · by_cases hi : i ≤ s
        · exact .inl hi
        · right
          intro g1
          simp only [beq_eq_false_iff_ne, ne_eq]
          exact fun g2 => hh 0 (by omega) (by simp; omega) ⟨g1, g2⟩
      · have := hh (k + 1) (by omega) (by omega)
        rwa [o30_cons, p30_cons] at this
/-- half of a list's rows: its length may be odd -/
theorem conn30_odd (p : Int) : ∀ (n : Nat) (l : List U) (i : Int), l.length / 2 = n → conn30 p l i = conn30 p (l.take (2 * n)) i ∧ nums30 l i = nums30 (l.take (2 * n)) i ∧ ∀ j s, before30 p j l s = before30 p j (l.take (2 * n)) s
  | 0, [], i, h => by simp [conn30, nums30, before30]
  | 0, [a], i, h => by simp [conn30, nums30, before30]
  | 0, a :: b :: l, i, h => by simp at h; omega
  | n + 1, [], i, h => by simp at h
  | n + 1, [a], i, h => by simp at h
  | n + 1, a :: b :: l, i, h => by
    have hl : l.length / 2 = n := by simp at h; omega
    have e : (a :: b :: l).take (2 * (n + 1)) = a :: b :: l.take (2 * n) := by rw [show 2 * (n + 1) = 2 * n + 1 + 1 by omega]; simp
    rw [e]
    obtain ⟨h1, h2, h3⟩ := conn30_odd p n l (i + 1) hl
    refine ⟨by simp only [conn30, h1], by simp only [nums30, h2], fun j s => by simp only [before30, (conn30_odd p n l (s + 1) hl).2.2 j (s + 1)]⟩
theorem o30_take {l : List U} {n k : Nat} (h : k < n) : o30 (l.take (2 * n)) k = o30 l k := by
  unfold o30; simp only [List.getD]; rw [List.getElem?_take_of_lt (by omega)]
theorem p30_take {l : List U} {n k : Nat} (h : k < n) : p30 (l.take (2 * n)) k = p30 l k := by
  unfold p30; simp only [List.getD]; rw [List.getElem?_take_of_lt (by omega)]
section
variable {R : List U} {n p i : Int} (hn : n = (R.length : Int) / 2)
include hn
theorem take_len : (R.take (2 * n.toNat)).length = 2 * n.toNat := by rw [List.length_take]; omega
theorem bef_iff : before30 p i R 0 = true ↔ ∀ k : Int, 0 ≤ k → k < n → k < i → ¬ (oI R k = true ∧ pI R k = p) := by
  rw [(conn30_odd p n.toNat R 0 (by omega)).2.2 i 0, before_iff p i n.toNat _ 0 (take_len hn)]
  constructor
  · intro h k k0 k1 k2
    rw [oI_eq k0, pI_eq k0]
    have := h k.toNat (by omega) (by omega)
    rwa [o30_take (by omega), p30_take (by omega)] at this
  · intro h k h1 h2
    rw [o30_take h1, p30_take h1]
    have := h (k : Int) (by omega) (by omega) (by omega)
    rwa [oI_eq (by omega), pI_eq (by omega), Int.toNat_natCast] at this
theorem bef_zero : before30 p 0 R 0 = true := (bef_iff hn).2 fun k h1 _ h3 => by omega
theorem bef_step (h : before30 p i R 0 = true) (hx : ¬ (oI R i = true ∧ pI R i = p)) : before30 p (i + 1) R 0 = true := by
  rw [bef_iff hn] at h ⊢
  intro k h1 h2 h3
  by_cases e : k = i
  · subst e; exact hx
  · exact h k h1 h2 (by omega)
theorem conn_spec : (conn30 p R 0 = -1 ∧ ∀ k : Int, 0 ≤ k → k < n → ¬ (oI R k = true ∧ pI R k = p)) ∨
    ∃ k : Int, 0 ≤ k ∧ k < n ∧ conn30 p R 0 = k ∧ oI R k = true ∧ pI R k = p ∧ ∀ j : Int, 0 ≤ j → j < k → ¬ (oI R j = true ∧ pI R j = p) := by
  rw [(conn30_odd p n.toNat R 0 (by omega)).1]
  have hlen := take_len hn
  generalize hT : R.take (2 * n.toNat) = T at hlen
  have ho : ∀ k : Int, 0 ≤ k → k < n → o30 T k.toNat = oI R k ∧ p30 T k.toNat = pI R k := by
    intro k h1 h2
    rw [oI_eq h1, pI_eq h1, ← hT, o30_take (by omega), p30_take (by omega)]
    exact ⟨rfl, rfl⟩
  rcases conn30_spec p n.toNat T 0 hlen with ⟨h1, h2⟩ | ⟨k, h1, h2, h3, h4, h5⟩
  · refine .inl ⟨h1, fun k k0 k1 => ?_⟩
    obtain ⟨a, b⟩ := ho k k0 k1
    rw [← a, ← b]; exact h2 k.toNat (by omega)
  · obtain ⟨a, b⟩ := ho (k : Int) (by omega) (by omega)
    rw [Int.toNat_natCast] at a b
    refine .inr ⟨k, by omega, by omega, by rw [h2]; omega, by rw [← a]; exact h3, by rw [← b]; exact h4, fun j j0 j1 => ?_⟩
    obtain ⟨a, b⟩ := ho j j0 (by omega)
    rw [← a, ← b]; exact h5 j.toNat (by omega)
theorem conn_found (h : before30 p i R 0 = true) (h0 : 0 ≤ i) (h1 : i < n) (ho : oI R i = true) (hp : pI R i = p) : i = conn30 p R 0 := by
  have hb := (bef_iff hn).1 h
  rcases conn_spec (p := p) hn with ⟨_, g⟩ | ⟨k, k0, k1, k2, k3, k4, k5⟩
  · exact absurd ⟨ho, hp⟩ (g i h0 h1)
  · rw [k2]
    rcases Int.lt_trichotomy i k with e | e | e
    · exact absurd ⟨ho, hp⟩ (k5 i h0 e)
    · exact e
    · exact absurd ⟨k3, k4⟩ (hb k k0 k1 e)
theorem conn_none (h : before30 p i R 0 = true) (h1 : n ≤ i) : conn30 p R 0 = -1 := by
  have hb := (bef_iff hn).1 h
  rcases conn_spec (p := p) hn with ⟨g, _⟩ | ⟨k, k0, k1, k2, k3, k4, k5⟩
  · exact g
  · exact absurd ⟨k3, k4⟩ (hb k k0 k1 (by omega))
/-- numbers below the next one -/
theorem nums_step (h0 : 0 ≤ i) (h1 : i < n) : (nums30 R 0).filter (fun k => decide (k < i + 1)) = (nums30 R 0).filter (fun k => decide (k < i)) ++ (if oI R i = true then [i] else []) := by
  rw [(conn30_odd 0 n.toNat R 0 (by omega)).2.1]
  have hlen := take_len hn
  have ho : oI R i = o30 (R.take (2 * n.toNat)) i.toNat := by rw [oI_eq h0, o30_take (by omega)]
  rw [ho]
  have hm := nums_mem n.toNat (R.take (2 * n.toNat)) 0 i hlen
  have hs := nums_sorted n.toNat (R.take (2 * n.toNat)) 0 hlen
  have hi : i ∈ nums30 (R.take (2 * n.toNat)) 0 ↔ o30 (R.take (2 * n.toNat)) i.toNat = true := by
    rw [hm]
    clear hm hs
    constructor
    · rintro ⟨k, k1, k2, k3⟩
      have e : i.toNat = k := by omega
      rw [e]; exact k3
    · intro hh; exact ⟨i.toNat, by omega, by omega, hh⟩
  generalize nums30 (R.take (2 * n.toNat)) 0 = L at hs hi
  have key : ∀ (L : List Int), L.Pairwise (· < ·) → L.filter (fun k => decide (k < i + 1)) = L.filter (fun k => decide (k < i)) ++ (if i ∈ L then [i] else []) := by
    intro L hL
    induction L with
    | nil => simp
    | cons x L ih =>
      obtain ⟨g1, g2⟩ := List.pairwise_cons.1 hL
      have ih := ih g2
      rcases Int.lt_trichotomy x i with e | e | e
      · have hne : ¬ i = x := by omega
        have e1 : x < i + 1 := by omega
        simp only [List.filter_cons, decide_eq_true_eq, e1, e, if_true, ih, List.mem_cons, hne, false_or, List.cons_append]
      · subst e
        have hni : ¬ x ∈ L := fun hm => by have := g1 x hm; omega
        have e1 : x < x + 1 := by omega
        have e2 : ¬ x < x := by omega
        simp only [List.filter_cons, decide_eq_true_eq, e1, e2, if_true, if_false, ih, hni, List.mem_cons, true_or, List.append_nil, List.nil_append]
        have : L.filter (fun k => decide (k < x)) = [] := by
          rw [List.filter_eq_nil_iff]
          intro y hy
          have := g1 y hy
          simp only [decide_eq_true_eq]; omega
        simp [this]
      · have hne : ¬ i = x := by omega
        have hni : ¬ i ∈ L := fun hm => by have := g1 i hm; omega
        have e1 : ¬ x < i + 1 := by omega
        have e2 : ¬ x < i := by omega
        simp only [List.filter_cons, decide_eq_true_eq, e1, e2, if_false, ih, hni, List.mem_cons, hne, false_or, List.append_nil]
  rw [key L hs]
  by_cases hh : i ∈ L
  · rw [if_pos hh, if_pos (hi.1 hh)]
  · rw [if_neg hh, if_neg (fun e => hh (hi.2 e))]
theorem nums_zero : (nums30 R 0).filter (fun k => decide (k < 0)) = [] := by
  rw [(conn30_odd 0 n.toNat R 0 (by omega)).2.1, List.filter_eq_nil_iff]
  intro x hx
  obtain ⟨k, h1, h2, _⟩ := (nums_mem n.toNat _ 0 x (take_len hn)).1 hx
  simp only [decide_eq_true_eq]; omega
end
end Go.SX
namespace Go.SX
theorem seq_iff (ρ : Env) (a b : E) : (E.B ρ (.seq a b) = true) = (E.S ρ a = E.S ρ b) := by
  show (eqS (E.S ρ a) (E.S ρ b) = true) = _
  rw [eqS_iff]
theorem same_at {a b : List U} (h : a.map U.toI = b.map U.toI) (i : Nat) : (a.getD i (.int 0)).toI = (b.getD i (.int 0)).toI := by
  have := congrArg (fun l => l[i]?) h
  simp only [List.getElem?_map] at this
  simp only [List.getD]
  cases h1 : a[i]? <;> cases h2 : b[i]? <;> simp_all [U.toI]
end Go.SX
namespace Go.SX
/-! ### What is dead stays dead -/
def deadU (D : List U) (x : Int) : Bool := ((mfind x D).getD (.bool false)).toB
structure RelH (M D : List U) (c0 c1 d : Int) (r0 r1 : Bool) : Prop where
  d0 : 0 ≤ d
  dm : d ≤ 1000
  nd : (keysU M).Nodup
  dk : ∀ x, d ≤ x → mfind x D = none
  f1 : ∀ x v, mfind x M = some v → 0 ≤ x ∧ x < d ∧ -1 ≤ v.toI ∧ v.toI ≤ 1 ∧ (v.toI = 0 → x = c0 ∧ r0 = true) ∧ (v.toI = 1 → x = c1 ∧ r1 = true)
  a0 : c0 = -1 ∨ (0 ≤ c0 ∧ ∃ v, mfind c0 M = some v ∧ v.toI = 0)
  a1 : c1 = -1 ∨ (0 ≤ c1 ∧ ∃ v, mfind c1 M = some v ∧ v.toI = 1)
  dd : ∀ x, 0 ≤ x → x < d → deadU D x = !(mfind x M).isSome
theorem relH_iff {M D : List U} {c0 c1 d : Int} {r0 r1 : Bool} : relH M D c0 c1 d r0 r1 = true ↔ RelH M D c0 c1 d r0 r1 := by
  constructor
  · intro h
    unfold relH at h
    simp only [Bool.and_eq_true, decide_eq_true_eq, List.all_eq_true, List.mem_range, Bool.or_eq_true, beq_iff_eq, Option.map_eq_some_iff] at h
    obtain ⟨⟨⟨⟨⟨⟨⟨h1, h2⟩, h9⟩, h3⟩, h4⟩, h5⟩, h6⟩, h7⟩ := h
    refine ⟨h1, h7, h2, fun x hx => ?_, fun x v hv => ?_, h4, h5, fun x k0 k1 => ?_⟩
    · rw [mfind_none]
      intro hm
      obtain ⟨u, hu, rfl⟩ := List.mem_map.1 hm
      have := h9 u hu
      omega
    · obtain ⟨u, hu, rfl, rfl⟩ := mfind_mem hv
      exact h3 u hu
    · rcases h6 with h6 | h6
      · omega
      · have := h6 x.toNat (by omega)
        rw [show ((x.toNat : Nat) : Int) = x by omega] at this
        exact this
  · intro h
    unfold relH
    simp only [Bool.and_eq_true, decide_eq_true_eq, List.all_eq_true, List.mem_range, Bool.or_eq_true, beq_iff_eq, Option.map_eq_some_iff]
    refine ⟨⟨⟨⟨⟨⟨⟨h.d0, h.nd⟩, fun u hu => ?_⟩, fun u hu => ?_⟩, h.a0⟩, h.a1⟩, .inr fun k hk => ?_⟩, h.dm⟩
    · refine Classical.byContradiction fun hn => ?_
      have := mfind_none.1 (h.dk u.fst.toI (by omega))
      exact this (List.mem_map_of_mem (f := fun u : U => u.fst.toI) hu)
    · exact h.f1 _ _ (mfind_of_mem h.nd u hu)
    · exact h.dd k (by omega) (by omega)
theorem dead_put (D : List U) (x y : Int) (b : Bool) : deadU (mput y (.bool b) D) x = if x = y then b else deadU D x := by
  unfold deadU
  rw [mfind_put]
  split <;> rfl
section
variable {M D : List U} {c0 c1 d : Int} {r0 r1 : Bool} (h : relH M D c0 c1 d r0 r1 = true)
include h
theorem relH_c : -1 ≤ c0 ∧ c0 < d ∧ -1 ≤ c1 ∧ c1 < d ∧ 0 ≤ d ∧ d ≤ 1000 ∧ (0 ≤ c0 → r0 = true) ∧ (0 ≤ c1 → r1 = true) ∧ (0 ≤ c0 → ¬ c0 = c1) := by
  have h := relH_iff.1 h
  have := h.d0
  have := h.dm
  have k0 : -1 ≤ c0 ∧ c0 < d ∧ (0 ≤ c0 → r0 = true) := by
    rcases h.a0 with g | ⟨g1, v, g2, g3⟩
    · exact ⟨by omega, by omega, fun e => by omega⟩
    · have := h.f1 _ _ g2
      exact ⟨by omega, by omega, fun _ => (this.2.2.2.2.1 g3).2⟩
  have k1 : -1 ≤ c1 ∧ c1 < d ∧ (0 ≤ c1 → r1 = true) := by
    rcases h.a1 with g | ⟨g1, v, g2, g3⟩
    · exact ⟨by omega, by omega, fun e => by omega⟩
    · have := h.f1 _ _ g2
      exact ⟨by omega, by omega, fun _ => (this.2.2.2.2.2 g3).2⟩
  refine ⟨k0.1, k0.2.1, k1.1, k1.2.1, by omega, by omega, k0.2.2, k1.2.2, fun e e2 => ?_⟩
  rcases h.a0 with g | ⟨g1, v, g2, g3⟩
  · omega
  · rcases h.a1 with g' | ⟨g1', v', g2', g3'⟩
    · omega
    · rw [← e2, g2] at g2'
      simp only [Option.some.injEq] at g2'; subst g2'
      omega
theorem relH_look (k : Int) : (mfind k M = none ∧ (0 ≤ k → k < d → deadU D k = true) ∧ (0 ≤ k → ¬ c0 = k ∧ ¬ c1 = k)) ∨
    ∃ v, mfind k M = some v ∧ 0 ≤ k ∧ k < d ∧ deadU D k = false ∧ -1 ≤ v.toI ∧ v.toI ≤ 1 ∧ (v.toI = 0 → k = c0 ∧ r0 = true) ∧ (v.toI = 1 → k = c1 ∧ r1 = true) ∧ (k = c0 → v.toI = 0) ∧ (k = c1 → v.toI = 1) := by
  have h := relH_iff.1 h
  cases hm : mfind k M with
  | none =>
    refine .inl ⟨rfl, fun h1 h2 => ?_, fun h1 => ⟨fun e => ?_, fun e => ?_⟩⟩
    · rw [h.dd k h1 h2, hm]; rfl
    · rcases h.a0 with g | ⟨_, w, g2, _⟩
      · omega
      · rw [e, hm] at g2; cases g2
    · rcases h.a1 with g | ⟨_, w, g2, _⟩
      · omega
      · rw [e, hm] at g2; cases g2
  | some v =>
    obtain ⟨h1, h2, h3, h4, h5, h6⟩ := h.f1 k v hm
    refine .inr ⟨v, rfl, h1, h2, by rw [h.dd k h1 h2, hm]; rfl, h3, h4, h5, h6, fun e => ?_, fun e => ?_⟩
    · rcases h.a0 with g | ⟨g1, w, g2, g3⟩
      · omega
      · rw [← e, hm] at g2; simp only [Option.some.injEq] at g2; subst g2; exact g3
    · rcases h.a1 with g | ⟨g1, w, g2, g3⟩
      · omega
      · rw [← e, hm] at g2; simp only [Option.some.injEq] at g2; subst g2; exact g3
theorem relH_open (hd : d + 1 ≤ 1000) : relH (mput d (.int (-1)) M) D c0 c1 (d + 1) r0 r1 = true := by
  have h := relH_iff.1 h
  have := h.d0
  refine relH_iff.2 ⟨by omega, hd, nodup_put h.nd, fun x hx => h.dk x (by omega), fun x v hv => ?_, ?_, ?_, fun x k0 k1 => ?_⟩
  · rw [mfind_put] at hv
    split at hv
    · rename_i e
      simp only [Option.some.injEq] at hv; subst hv
      exact ⟨by omega, by omega, by simp [U.toI], by simp [U.toI], fun e => by simp [U.toI] at e, fun e => by simp [U.toI] at e⟩
    · obtain ⟨h1, h2, h3⟩ := h.f1 x v hv
      exact ⟨h1, by omega, h3⟩
  · refine h.a0.imp id fun ⟨g1, v, g2, g3⟩ => ⟨g1, v, ?_, g3⟩
    have := (h.f1 _ _ g2).2.1
    rw [mfind_put, if_neg (by omega)]; exact g2
  · refine h.a1.imp id fun ⟨g1, v, g2, g3⟩ => ⟨g1, v, ?_, g3⟩
    have := (h.f1 _ _ g2).2.1
    rw [mfind_put, if_neg (by omega)]; exact g2
  · rw [mfind_put]
    by_cases e : x = d
    · rw [if_pos e]
      have : mfind x D = none := h.dk x (by omega)
      simp [deadU, this, U.toB]
    · rw [if_neg e]; exact h.dd x k0 (by omega)
theorem relH_close {k c0' c1' : Int} (k0 : 0 ≤ k) (k1 : k < d) (e0 : c0' = if k = c0 then -1 else c0) (e1 : c1' = if k = c1 then -1 else c1) : relH (mdel k M) (mput k (.bool true) D) c0' c1' d r0 r1 = true := by
  have h := relH_iff.1 h
  refine relH_iff.2 ⟨h.d0, h.dm, nodup_del h.nd, fun x hx => ?_, fun x v hv => ?_, ?_, ?_, fun x j0 j1 => ?_⟩
  · rw [mfind_put, if_neg (by omega)]; exact h.dk x hx
  · rw [mfind_del h.nd] at hv
    split at hv
    · cases hv
    · rename_i e
      obtain ⟨h1, h2, h3, h4, h5, h6⟩ := h.f1 x v hv
      refine ⟨h1, h2, h3, h4, fun q => ?_, fun q => ?_⟩
      · obtain ⟨a, b⟩ := h5 q
        exact ⟨by rw [e0, if_neg (fun q2 => e (by rw [a, q2]))]; exact a, b⟩
      · obtain ⟨a, b⟩ := h6 q
        exact ⟨by rw [e1, if_neg (fun q2 => e (by rw [a, q2]))]; exact a, b⟩
  · rw [e0]
    by_cases q : k = c0
    · rw [if_pos q]; exact .inl rfl
    · rw [if_neg q]
      refine h.a0.imp id fun ⟨g1, v, g2, g3⟩ => ⟨g1, v, ?_, g3⟩
      rw [mfind_del h.nd, if_neg (fun q2 => q q2.symm)]; exact g2
  · rw [e1]
    by_cases q : k = c1
    · rw [if_pos q]; exact .inl rfl
    · rw [if_neg q]
      refine h.a1.imp id fun ⟨g1, v, g2, g3⟩ => ⟨g1, v, ?_, g3⟩
      rw [mfind_del h.nd, if_neg (fun q2 => q q2.symm)]; exact g2
  · rw [dead_put, mfind_del h.nd]
    by_cases q : x = k
    · rw [if_pos q, if_pos q]; rfl
    · rw [if_neg q, if_neg q]; exact h.dd x j0 j1
end
/-- a hello: the old connection, if there is one, is dead -/
theorem relH_hello {M D D' : List U} {c0 c1 d c0' c1' k p old : Int} {r0 r1 r0' r1' : Bool} (h : relH M D c0 c1 d r0 r1 = true) {v : U} (hv : mfind k M = some v) (hm : v.toI = -1) (hp : p = 0 ∨ p = 1)
    (hold : old = if p = 0 then c0 else c1) (e0 : c0' = if p = 0 then k else c0) (e1 : c1' = if p = 0 then c1 else k) (g0 : r0' = if p = 0 then true else r0) (g1 : r1' = if p = 0 then r1 else true)
    (hD : D' = if 0 ≤ old then mput old (.bool true) D else D) : relH (mput k (.int p) (mdel old M)) D' c0' c1' d r0' r1' = true := by
  have h := relH_iff.1 h
  obtain ⟨k0, k1, _, _, _, _⟩ := h.f1 k v hv
  have hok : ¬ old = k := by
    intro e
    rw [hold] at e
    rcases hp with rfl | rfl
    · simp only [if_true] at e
      rcases h.a0 with q | ⟨_, w, q1, q2⟩
      · omega
      · rw [e, hv] at q1; simp only [Option.some.injEq] at q1; subst q1; omega
    · simp only [if_neg (show ¬ (1 : Int) = 0 by decide)] at e
      rcases h.a1 with q | ⟨_, w, q1, q2⟩
      · omega
      · rw [e, hv] at q1; simp only [Option.some.injEq] at q1; subst q1; omega
  have holdd : old < d := by
    rw [hold]
    rcases hp with rfl | rfl
    · simp only [if_true]
      rcases h.a0 with q | ⟨_, w, q1, _⟩
      · have := h.d0; omega
      · exact (h.f1 _ _ q1).2.1
    · simp only [if_neg (show ¬ (1 : Int) = 0 by decide)]
      rcases h.a1 with q | ⟨_, w, q1, _⟩
      · have := h.d0; omega
      · exact (h.f1 _ _ q1).2.1
  have hfind : ∀ x, mfind x (mput k (.int p) (mdel old M)) = if x = k then some (.int p) else if x = old then none else mfind x M := fun x => by rw [mfind_put, mfind_del h.nd]
  refine relH_iff.2 ⟨h.d0, h.dm, nodup_put (nodup_del h.nd), fun x hx => ?_, fun x w hw => ?_, ?_, ?_, fun x j0 j1 => ?_⟩
  · rw [hD]
    split
    · rw [mfind_put, if_neg (by omega)]; exact h.dk x hx
    · exact h.dk x hx
  · rw [hfind] at hw
    by_cases a : x = k
    · rw [if_pos a] at hw
      simp only [Option.some.injEq] at hw; subst hw
      refine ⟨by omega, by omega, ?_, ?_, fun q => ?_, fun q => ?_⟩
      · show -1 ≤ p; omega
      · show p ≤ 1; omega
      · have q' : p = 0 := q
        rw [e0, g0, if_pos q', if_pos q']; exact ⟨a, rfl⟩
      · have q' : p = 1 := q
        rw [e1, g1, if_neg (by omega), if_neg (by omega)]; exact ⟨a, rfl⟩
    · rw [if_neg a] at hw
      by_cases b : x = old
      · rw [if_pos b] at hw; cases hw
      · rw [if_neg b] at hw
        obtain ⟨h1, h2, h3, h4, h5, h6⟩ := h.f1 x w hw
        refine ⟨h1, h2, h3, h4, fun q => ?_, fun q => ?_⟩
        · obtain ⟨s, t⟩ := h5 q
          have : ¬ p = 0 := fun e => b (by rw [hold, if_pos e]; exact s)
          rw [e0, g0, if_neg this, if_neg this]; exact ⟨s, t⟩
        · obtain ⟨s, t⟩ := h6 q
          have : p = 0 := by
            rcases hp with e | e
            · exact e
            · exact absurd (by rw [hold, if_neg (by omega)]; exact s) b
          rw [e1, g1, if_pos this, if_pos this]; exact ⟨s, t⟩
  · rw [e0]
    by_cases q : p = 0
    · rw [if_pos q]; exact .inr ⟨k0, .int p, by rw [hfind, if_pos rfl], q⟩
    · rw [if_neg q]
      refine h.a0.imp id fun ⟨s1, w, s2, s3⟩ => ⟨s1, w, ?_, s3⟩
      have a : ¬ c0 = k := fun e => by rw [e, hv] at s2; simp only [Option.some.injEq] at s2; subst s2; omega
      have b : ¬ c0 = old := fun e => by
        rw [hold, if_neg q] at e
        rcases h.a1 with t | ⟨_, w', t1, t2⟩
        · omega
        · rw [← e, s2] at t1; simp only [Option.some.injEq] at t1; subst t1; omega
      rw [hfind, if_neg a, if_neg b]; exact s2
  · rw [e1]
    by_cases q : p = 0
    · rw [if_pos q]
      refine h.a1.imp id fun ⟨s1, w, s2, s3⟩ => ⟨s1, w, ?_, s3⟩
      have a : ¬ c1 = k := fun e => by rw [e, hv] at s2; simp only [Option.some.injEq] at s2; subst s2; omega
      have b : ¬ c1 = old := fun e => by
        rw [hold, if_pos q] at e
        rcases h.a0 with t | ⟨_, w', t1, t2⟩
        · omega
        · rw [← e, s2] at t1; simp only [Option.some.injEq] at t1; subst t1; omega
      rw [hfind, if_neg a, if_neg b]; exact s2
    · rw [if_neg q]; exact .inr ⟨k0, .int p, by rw [hfind, if_pos rfl], by show p = 1; omega⟩
  · rw [hfind]
    have hdd := h.dd x j0 j1
    by_cases a : x = k
    · rw [if_pos a]
      have hb : deadU D x = false := by rw [hdd, a, hv]; rfl
      rw [hD]
      split
      · rw [dead_put, if_neg (by omega), hb]; rfl
      · rw [hb]; rfl
    · rw [if_neg a]
      by_cases b : x = old
      · rw [if_pos b, hD, if_pos (by omega), dead_put, if_pos b]; rfl
      · rw [if_neg b, hD]
        split
        · rw [dead_put, if_neg b]; exact hdd
        · exact hdd
def cntH (c n : Int) : Int := if 0 ≤ c ∧ c < n then 1 else 0
theorem cnt_step {c n : Int} (h : 0 ≤ n) : cntH c (n + 1) = cntH c n + (if c = n then 1 else 0) := by
  unfold cntH
  by_cases a : c = n
  · subst a; rw [if_pos (by omega), if_neg (by omega), if_pos rfl]; rfl
  · rw [if_neg a]
    by_cases b : 0 ≤ c ∧ c < n
    · rw [if_pos (by omega), if_pos b]; rfl
    · rw [if_neg (by omega), if_neg b]; rfl
theorem cnt_le (c n : Int) : 0 ≤ cntH c n ∧ cntH c n ≤ 1 := by
  unfold cntH; split <;> omega
theorem cnt_zero (c : Int) : cntH c 0 = 0 := by
  unfold cntH; rw [if_neg (by omega)]
theorem cnt_at {c n : Int} (h : c = n) : cntH c n = 0 := by
  unfold cntH; rw [if_neg (by omega)]
section
variable (ρ : Env) (m dd a b c r s k i : E)
theorem d111 : E.B ρ (.fn 111 (.pr m (.pr dd (.pr a (.pr b (.pr c (.pr r s))))))) = relH (E.L ρ m) (E.L ρ dd) (E.I ρ a) (E.I ρ b) (E.I ρ c) (E.B ρ r) (E.B ρ s) := rfl
theorem d112 : E.I ρ (.fn 112 (.pr a i)) = cntH (E.I ρ a) (E.I ρ i) := rfl
theorem d32b : E.B ρ (.fn 32 (.pr m (.pr k (.bool false)))) = deadU (E.L ρ m) (E.I ρ k) := rfl
end
end Go.SX

/-
  Views as lists of numbers and bytes; what comes in.
-/
import Derived.Test.YtoicbojdnjcmiaaSXd
set_option linter.unusedVariables false
set_option linter.unusedSimpArgs false
namespace Go.SX
/-! ### numbers as bytes -/
theorem vi_fuel : ∀ (k j x : Nat), x ≤ k → x ≤ j → vi k x = vi j x
  | 0, j, x, h, _ => by
    have : x = 0 := by omega
    subst this
    cases j <;> rfl
  | k + 1, 0, x, _, h => by
    have : x = 0 := by omega
    subst this; rfl
  | k + 1, j + 1, x, h, h' => by
    unfold vi
    split
    · rfl
    · rw [vi_fuel k j (x / 128) (by omega) (by omega)]
theorem vi_lt {x : Nat} (h : x < 128) : vi x x = [(x : Int)] := by
  cases x with
  | zero => rfl
  | succ x => simp [vi, h]
theorem vi_ge {x : Nat} (h : 128 ≤ x) : vi x x = ((128 + x % 128 : Nat) : Int) :: vi (x / 128) (x / 128) := by
  cases x with
  | zero => omega
  | succ x =>
    have h1 : ¬ (x + 1 < 128) := by omega
    rw [vi, if_neg h1, vi_fuel x ((x + 1) / 128) _ (by omega) (by omega)]
    rfl
theorem vi_pos (k x : Nat) : 1 ≤ (vi k x).length := by
  cases k with
  | zero => simp [vi]
  | succ k => unfold vi; split <;> simp
theorem vi_len : ∀ (n x : Nat), x < 128 ^ (n + 1) → (vi x x).length ≤ n + 1
  | 0, x, h => by rw [vi_lt (by simpa using h)]; simp
  | n + 1, x, h => by
    by_cases hx : x < 128
    · rw [vi_lt hx]; simp
    · rw [vi_ge (by omega)]
      have : x / 128 < 128 ^ (n + 1) := by
        rw [Nat.div_lt_iff_lt_mul (by omega)]
        rw [Nat.pow_succ] at h; exact h
      have := vi_len n (x / 128) this
      simp only [List.length_cons]; omega
theorem vi_bytes : ∀ (x : Nat), ∀ b ∈ vi x x, 0 ≤ b ∧ b < 256 := by
  intro x
  induction x using Nat.strongRecOn with
  | ind x ih =>
    intro b hb
    by_cases hx : x < 128
    · rw [vi_lt hx] at hb
      simp only [List.mem_cons, List.not_mem_nil, or_false] at hb
      subst hb; omega
    · rw [vi_ge (by omega)] at hb
      rcases List.mem_cons.1 hb with h | h
      · subst h; omega
      · exact ih (x / 128) (by omega) b h
theorem vi_inj : ∀ (x y : Nat) (a b : List Int), vi x x ++ a = vi y y ++ b → x = y ∧ a = b := by
  intro x
  induction x using Nat.strongRecOn with
  | ind x ih =>
    intro y a b h
    by_cases hx : x < 128 <;> by_cases hy : y < 128
    · rw [vi_lt hx, vi_lt hy] at h
      simp only [List.cons_append, List.nil_append, List.cons.injEq] at h
      exact ⟨by omega, h.2⟩
    · rw [vi_lt hx, vi_ge (x := y) (by omega)] at h
      simp only [List.cons_append, List.nil_append, List.cons.injEq] at h
      omega
    · rw [vi_ge (x := x) (by omega), vi_lt hy] at h
      simp only [List.cons_append, List.nil_append, List.cons.injEq] at h
      omega
    · rw [vi_ge (x := x) (by omega), vi_ge (x := y) (by omega)] at h
      simp only [List.cons_append, List.cons.injEq] at h
      obtain ⟨h1, h2⟩ := ih (x / 128) (by omega) _ _ _ h.2
      exact ⟨by omega, h2⟩
theorem zig_inj {m n : Int} (h : zig m = zig n) : m = n := by
  unfold zig at h
  split at h <;> split at h <;> omega
theorem enc1_inj {m n : Int} {a b : List Int} (h : enc1 m ++ a = enc1 n ++ b) : m = n ∧ a = b := by
  obtain ⟨h1, h2⟩ := vi_inj _ _ _ _ h
  exact ⟨zig_inj h1, h2⟩
theorem enc1_pos (n : Int) : 1 ≤ (enc1 n).length := vi_pos _ _
theorem encs_cons (n : Int) (l : List Int) : encs (n :: l) = enc1 n ++ encs l := rfl
theorem encs_append (a b : List Int) : encs (a ++ b) = encs a ++ encs b := by simp [encs]
theorem encs_inj : ∀ (l m : List Int), encs l = encs m → l = m
  | [], [], _ => rfl
  | [], n :: m, h => by
    have := congrArg List.length h
    rw [encs_cons, List.length_append] at this
    have h1 := enc1_pos n
    simp only [encs, List.flatMap_nil, List.length_nil] at this; omega
  | n :: l, [], h => by
    have := congrArg List.length h
    rw [encs_cons, List.length_append] at this
    have h1 := enc1_pos n
    simp only [encs, List.flatMap_nil, List.length_nil] at this; omega
  | a :: l, b :: m, h => by
    rw [encs_cons, encs_cons] at h
    obtain ⟨h1, h2⟩ := enc1_inj h
    rw [h1, encs_inj l m h2]
def in64 (n : Int) : Prop := -9223372036854775808 ≤ n ∧ n ≤ 9223372036854775807
theorem zig_lt {n : Int} (h : in64 n) : zig n < 18446744073709551616 := by
  unfold in64 at h
  unfold zig; split <;> omega
theorem enc1_len {n : Int} (h : in64 n) : (enc1 n).length ≤ 10 := vi_len 9 _ (by have := zig_lt h; omega)
theorem encs_len : ∀ (l : List Int), (∀ n ∈ l, in64 n) → (encs l).length ≤ 10 * l.length
  | [], _ => by simp [encs]
  | n :: l, h => by
    rw [encs_cons, List.length_append, List.length_cons]
    have h1 := enc1_len (h n (by simp))
    have h2 := encs_len l (fun m hm => h m (by simp [hm]))
    omega
theorem encs_bytes (l : List Int) : ∀ b ∈ encs l, 0 ≤ b ∧ b < 256 := by
  intro b hb
  unfold encs at hb
  rw [List.mem_flatMap] at hb
  obtain ⟨n, _, hn⟩ := hb
  exact vi_bytes _ b hn
/-! ### rows of lists -/
theorem row_of : ∀ (w : Nat) (l : List U) (a : Nat), a + w ≤ l.length → (l.drop a).take w = (List.range' a w).map fun p => l.getD p (.int 0)
  | 0, l, a, _ => by simp
  | w + 1, l, a, h => by
    have ha : a < l.length := by omega
    rw [List.drop_eq_getElem_cons ha, List.take_succ_cons, row_of w l (a + 1) (by omega), List.range'_succ, List.map_cons]
    congr 1
    rw [List.getD_eq_getElem?_getD, List.getElem?_eq_getElem ha]; rfl
theorem take_row {w : Nat} {l : List U} {i : Nat} (h : (i + 1) * w ≤ l.length) : l.take ((i + 1) * w) = l.take (i * w) ++ (List.range' (i * w) w).map fun p => l.getD p (.int 0) := by
  have e : (i + 1) * w = i * w + w := Nat.succ_mul i w
  rw [← row_of w l (i * w) (by omega), e, List.take_add]

abbrev gU (l : List U) (p : Nat) : U := l.getD p (.int 0)
/-- one row more of objects -/
theorem objs_step {l : List U} {i : Nat} (h : (i + 1) * 12 ≤ l.length) (hb : ∀ j, 9 ≤ j → j < 12 → num1 (gU l (i * 12 + j)) = flag1 (gU l (i * 12 + j))) :
    flatK 1 l (i + 1) = flatK 1 l i ++ ([gU l (i * 12 + 0), gU l (i * 12 + 1), gU l (i * 12 + 2), gU l (i * 12 + 3), gU l (i * 12 + 4), gU l (i * 12 + 5), gU l (i * 12 + 6), gU l (i * 12 + 7), gU l (i * 12 + 8)].map num1 ++ [gU l (i * 12 + 9), gU l (i * 12 + 10), gU l (i * 12 + 11)].map flag1) := by
  have h9 := hb 9 (by omega) (by omega)
  have h10 := hb 10 (by omega) (by omega)
  have h11 := hb 11 (by omega) (by omega)
  simp only [flatK, take_row h, List.map_append, List.range'_succ, List.range'_zero, List.map_cons, List.map_nil, List.cons_append, List.append_assoc, gU, Nat.add_zero] at h9 h10 h11 ⊢
  rw [← h9, ← h10, ← h11]
  simp [Nat.add_assoc]
theorem items_head {l : List U} {i : Nat} (h : (i + 1) * 5 ≤ l.length) : itemF l i 0 = flatK 2 l i ++ ([gU l (i * 5 + 0), gU l (i * 5 + 1), gU l (i * 5 + 2), gU l (i * 5 + 3)].map num1 ++ [(((gU l (i * 5 + 4)).toL.length / 2 : Nat) : Int)]) := by
  have e : (l.drop (i * 5)).take 4 = (List.range' (i * 5) 4).map fun p => l.getD p (.int 0) := row_of 4 l (i * 5) (by omega)
  simp [itemF, e, List.range'_succ, gU, Nat.add_assoc]
theorem items_tgt {l : List U} {i k : Nat} (h : (k + 1) * 2 ≤ (gU l (i * 5 + 4)).toL.length) : itemF l i (k + 1) = itemF l i k ++ [gU (gU l (i * 5 + 4)).toL (k * 2 + 0), gU (gU l (i * 5 + 4)).toL (k * 2 + 1)].map num1 := by
  simp only [itemF, gU] at h ⊢
  rw [take_row h]
  simp [List.range'_succ, Nat.add_assoc]
theorem items_end {l : List U} {i k : Nat} (h : (i + 1) * 5 ≤ l.length) (hk : k = (gU l (i * 5 + 4)).toL.length / 2) (hn : ∀ j, j < 4 → tgt1 (gU l (i * 5 + j)) = [num1 (gU l (i * 5 + j))])
    (ht : ∃ a n c t, gU l (i * 5 + 4) = .bx a n c t) : itemF l i k = flatK 2 l (i + 1) := by
  have e : (l.drop (i * 5)).take 4 = (List.range' (i * 5) 4).map fun p => l.getD p (.int 0) := row_of 4 l (i * 5) (by omega)
  have h0 := hn 0 (by omega)
  have h1 := hn 1 (by omega)
  have h2 := hn 2 (by omega)
  have h3 := hn 3 (by omega)
  obtain ⟨a, n, c, t, ht⟩ := ht
  have h4 : tgt1 (gU l (i * 5 + 4)) = ((t.length / 2 : Nat) : Int) :: (t.take (t.length / 2 * 2)).map num1 := by rw [ht]; rfl
  subst hk
  simp only [gU] at h0 h1 h2 h3 h4 ht
  simp only [itemF, flatK, take_row h, e, List.flatMap_append, List.range'_succ, List.range'_zero, List.map_cons, List.map_nil, List.flatMap_cons, List.flatMap_nil, Nat.add_zero, gU, ht]
  simp only [Nat.add_assoc, Nat.reduceAdd, Nat.add_zero] at h0 h1 h2 h3 h4 ⊢
  rw [h0, h1, h2, h3]
  simp [U.toL, tgt1]
theorem itemB_eq {l : List U} {i : Nat} (h : (i + 1) * 5 ≤ l.length) (hn : ∀ j, j < 4 → tgtBad (gU l (i * 5 + j)) = false) : itemB l i = (sizeK 2 l i || tgtBad (gU l (i * 5 + 4))) := by
  have h0 := hn 0 (by omega)
  have h1 := hn 1 (by omega)
  have h2 := hn 2 (by omega)
  have h3 := hn 3 (by omega)
  simp only [gU] at h0 h1 h2 h3
  simp only [itemB, sizeK, take_row h, List.any_append, List.range'_succ, List.range'_zero, List.map_cons, List.map_nil, List.any_cons, List.any_nil, gU, Nat.add_zero, Nat.add_assoc, Nat.reduceAdd] at h0 h1 h2 h3 ⊢
  rw [h0, h1, h2, h3]
  simp [Bool.or_assoc]
theorem tgts_step {l : List U} {i : Nat} (h : (i + 1) * 5 ≤ l.length) (hn : ∀ j, j < 4 → (gU l (i * 5 + j)).toL = []) : tgtsN (l.take ((i + 1) * 5)) = tgtsN (l.take (i * 5)) + (gU l (i * 5 + 4)).toL.length / 2 := by
  have h0 := hn 0 (by omega)
  have h1 := hn 1 (by omega)
  have h2 := hn 2 (by omega)
  have h3 := hn 3 (by omega)
  simp only [gU] at h0 h1 h2 h3
  simp only [tgtsN, take_row h, List.map_append, List.sum_append, List.range'_succ, List.range'_zero, List.map_cons, List.map_nil, List.sum_cons, List.sum_nil, gU, Nat.add_zero, Nat.add_assoc, Nat.reduceAdd] at h0 h1 h2 h3 ⊢
  rw [h0, h1, h2, h3]
  simp
theorem tgts_le : ∀ (l m : List U), tgtsN l ≤ tgtsN (l ++ m) := by
  intro l m
  simp [tgtsN, List.map_append, List.sum_append]
theorem tgts_mono {l : List U} {a b : Nat} (h : a ≤ b) : tgtsN (l.take a) ≤ tgtsN (l.take b) := by
  obtain ⟨d, rfl⟩ : ∃ d, b = a + d := ⟨b - a, by omega⟩
  rw [List.take_add]
  exact tgts_le _ _
/-! ### sizes -/
theorem size_pos (u : U) : 1 ≤ U.size u := by cases u <;> simp [U.size]
theorem sizes_len : ∀ (l : List U), l.length ≤ U.sizes l
  | [] => by simp [U.sizes]
  | u :: l => by
    have := sizes_len l
    have := size_pos u
    simp only [U.sizes, List.length_cons]; omega
theorem size_toL (u : U) : U.sizes u.toL ≤ U.size u := by cases u <;> simp [U.size, U.sizes, U.toL]
theorem size_get : ∀ (l : List U) (p : Nat), U.size (l.getD p (.int 0)) ≤ U.sizes l + 1
  | [], p => by simp [U.size, U.sizes]
  | u :: l, 0 => by simp [U.sizes]; omega
  | u :: l, p + 1 => by
    have := size_get l p
    simp only [List.getD_cons_succ, U.sizes] at this ⊢; omega
theorem size_cell (u : U) (p : Nat) : U.size (u.toL.getD p (.int 0)) ≤ U.size u := by
  cases u with
  | int n => simp [U.toL, U.size]
  | bool n => simp [U.toL, U.size]
  | str n => simp [U.toL, U.size]
  | lst l => simpa [U.toL, U.size] using size_get l p
  | bx a n c l => simpa [U.toL, U.size] using size_get l p
theorem tgts_size : ∀ (l : List U), tgtsN l ≤ U.sizes l
  | [] => by simp [tgtsN, U.sizes]
  | u :: l => by
    have h1 := tgts_size l
    have h2 := sizes_len u.toL
    have h3 := size_toL u
    simp only [tgtsN, List.map_cons, List.sum_cons, U.sizes] at h1 ⊢; omega
theorem sizes_take (l : List U) (n : Nat) : U.sizes (l.take n) ≤ U.sizes l := by
  induction l generalizing n with
  | nil => simp
  | cons u l ih =>
    cases n with
    | zero => simp [U.sizes]
    | succ n => simp only [List.take_succ_cons, U.sizes]; have := ih n; omega
/-! ### strings of bytes -/
theorem bytes_inj : ∀ (l m : List Int), (∀ b ∈ l, 0 ≤ b ∧ b < 256) → (∀ b ∈ m, 0 ≤ b ∧ b < 256) → l.map (fun n => UInt8.ofNat n.toNat) = m.map (fun n => UInt8.ofNat n.toNat) → l = m
  | [], [], _, _, _ => rfl
  | [], _ :: _, _, _, h => by simp at h
  | _ :: _, [], _, _, h => by simp at h
  | a :: l, b :: m, h1, h2, h => by
    simp only [List.map_cons, List.cons.injEq] at h
    have ha := h1 a (by simp)
    have hb := h2 b (by simp)
    have e := congrArg UInt8.toNat h.1
    simp only [UInt8.toNat_ofNat'] at e
    rw [Nat.mod_eq_of_lt (by omega), Nat.mod_eq_of_lt (by omega)] at e
    rw [bytes_inj l m (fun x hx => h1 x (by simp [hx])) (fun x hx => h2 x (by simp [hx])) h.2]
    congr 1; omega
end Go.SX

set_option linter.unusedVariables false
set_option linter.unusedSimpArgs false
namespace Go.SX
/-! ### Views: what is written -/
noncomputable def ints (ρ : Env) (e : E) : List Int := (E.L ρ e).map U.toI
noncomputable def nums (ρ : Env) (e : E) : List Int := (E.L ρ e).map num1
theorem typ_get {l ks : List U} (h : U.typs l ks [] = true) {p : Nat} (hp : p < l.length) : ∃ k, ks[p % ks.length]? = some k ∧ U.typ (gU l p) k = true := by
  obtain ⟨k, k1, k2⟩ := typs_get l ks.length (Nat.le_refl _) (by rw [List.drop_length]; exact h) p _ (List.getElem?_eq_getElem hp)
  rw [Nat.add_mod_left] at k1
  refine ⟨k, k1, ?_⟩
  rw [gU, List.getD_eq_getElem?_getD, List.getElem?_eq_getElem hp]; exact k2
theorem typ3 {u : U} (h : U.typ u (.int 3) = true) : ∃ n, u = .int n ∧ in64 n := by
  cases u with
  | int n => simp only [U.typ, decide_eq_true_eq] at h; exact ⟨n, rfl, h.2.1, h.2.2⟩
  | bool b => simp [U.typ] at h
  | str s => simp [U.typ] at h
  | lst l => simp [U.typ] at h
  | bx a n c l => simp [U.typ] at h
theorem typ8 {u : U} (h : U.typ u (.int 8) = true) : ∃ b, u = .bool b := by
  cases u with
  | int n => simp [U.typ] at h
  | bool b => exact ⟨b, rfl⟩
  | str s => simp [U.typ] at h
  | lst l => simp [U.typ] at h
  | bx a n c l => simp [U.typ] at h
theorem typL {u : U} {ks : List U} (h : U.typ u (.lst ks) = true) : (∃ a n c l, u = .bx a n c l) ∧ U.typs u.toL ks [] = true := by
  cases u with
  | int n => simp [U.typ] at h
  | bool b => simp [U.typ] at h
  | str s => simp [U.typ] at h
  | lst l => simp [U.typ] at h
  | bx a n c l => exact ⟨⟨a, n, c, l, rfl⟩, by simpa [U.typ, U.toL] using h⟩
section
variable {ρ : Env} {x y z l A X Y a b k u i j p q n m r o c d w v x' b' x1 b1 x2 b2 : E}
theorem ints_len : ((ints ρ l).length : Int) = E.I ρ (.fn 0 l) := by
  show (((E.L ρ l).map U.toI).length : Int) = ((E.L ρ l).length : Int)
  simp
theorem L_len : ((E.L ρ l).length : Int) = E.I ρ (.fn 0 l) := rfl
theorem L_nil : E.L ρ (.fn 10 a) = [] := rfl
theorem L_cons : E.L ρ (.fn 23 (.pr a b)) = a.den ρ :: E.L ρ b := rfl
theorem L_app : E.L ρ (.fn 3 (.pr a b)) = E.L ρ a ++ E.L ρ b := rfl
theorem ints_nil : ints ρ (.fn 10 a) = [] := rfl
theorem ints_cons : ints ρ (.fn 23 (.pr a b)) = E.I ρ a :: ints ρ b := rfl
theorem ints_app : ints ρ (.fn 3 (.pr a b)) = ints ρ a ++ ints ρ b := by
  show (E.L ρ a ++ E.L ρ b).map U.toI = _
  rw [List.map_append]; rfl
theorem nth_den : (E.fn 1 (.pr l i)).den ρ = gU (E.L ρ l) (E.I ρ i).toNat := rfl
theorem I_nth : E.I ρ (.fn 1 (.pr l i)) = (gU (E.L ρ l) (E.I ρ i).toNat).toI := rfl
theorem L_nth : E.L ρ (.fn 1 (.pr l i)) = (gU (E.L ρ l) (E.I ρ i).toNat).toL := rfl
theorem rows_I {w : Int} : E.I ρ (.fn 9 (.pr l (.int w))) = (((E.L ρ l).length / w.toNat : Nat) : Int) := rfl
theorem len_cons : E.I ρ (.fn 0 (.fn 23 (.pr a b))) = 1 + E.I ρ (.fn 0 b) := by
  show (((a.den ρ :: E.L ρ b).length : Nat) : Int) = 1 + (((E.L ρ b).length : Nat) : Int)
  rw [List.length_cons]; omega
theorem len_nil : E.I ρ (.fn 0 (.fn 10 a)) = 0 := rfl
/-- x' is x and what was written -/
def Wr (ρ : Env) (x' b' : E) (x : List Int) (b : Bool) (L : List Int) (s : Bool) : Prop := ints ρ x' = x ++ encs L ∧ E.B ρ b' = (b || s || L.any out1)
theorem wrote_iff {x : List Int} {b : Bool} {L : List Int} {s : Bool} : (wrote (x'.den ρ) (E.B ρ b') x b L s = true) = Wr ρ x' b' x b L s := by
  apply propext
  unfold wrote Wr
  rw [Bool.and_eq_true, beq_iff_eq, beq_iff_eq]
  exact Iff.rfl
theorem z101 : (E.B ρ (.fn 101 (.pr x' (.pr b' (.pr x (.pr b (.pr k (.pr l i))))))) = true) = Wr ρ x' b' (ints ρ x) (E.B ρ b) (flatK (E.I ρ k).toNat (E.L ρ l) (E.I ρ i).toNat) (sizeK (E.I ρ k).toNat (E.L ρ l) (E.I ρ i).toNat) := wrote_iff
theorem z102 : (E.B ρ (.fn 102 (.pr x' (.pr b' (.pr x (.pr b (.pr n m)))))) = true) = Wr ρ x' b' (ints ρ x) (E.B ρ b) [E.I ρ n] (decide (E.I ρ m < E.I ρ n)) := wrote_iff
theorem z104 : (E.B ρ (.fn 104 (.pr x' (.pr b' (.pr X n)))) = true) = Wr ρ x' b' [] false (viewF 0 (E.I ρ n).toNat (E.L ρ X)) (viewB 0 (E.I ρ n).toNat (E.L ρ X)) := wrote_iff
theorem z107 : (E.B ρ (.fn 107 (.pr x' (.pr b' (.pr x (.pr b (.pr l (.pr i k))))))) = true) = Wr ρ x' b' (ints ρ x) (E.B ρ b) (itemF (E.L ρ l) (E.I ρ i).toNat (E.I ρ k).toNat) (itemB (E.L ρ l) (E.I ρ i).toNat) := wrote_iff
theorem z108 : (E.B ρ (.fn 108 (.pr x' (.pr b' (.pr X (.pr j i))))) = true) = Wr ρ x' b' [] false (viewF 0 (E.I ρ j).toNat (E.L ρ X) ++ flatK (cellK (E.I ρ j).toNat) (gU (E.L ρ X) (E.I ρ j).toNat).toL (E.I ρ i).toNat) (viewB 0 (E.I ρ j).toNat (E.L ρ X) || sizeK (cellK (E.I ρ j).toNat) (gU (E.L ρ X) (E.I ρ j).toNat).toL (E.I ρ i).toNat) := wrote_iff
theorem z103 : (E.B ρ (.fn 103 (.pr x2 (.pr b2 (.pr x (.pr b (.pr l (.pr i v))))))) = true) =
    (ints ρ x2 ++ vi (E.I ρ v).toNat (E.I ρ v).toNat = ints ρ x ++ encs ((nums ρ l).take (E.I ρ i).toNat) ++ enc1 ((nums ρ l).getD (E.I ρ i).toNat 0) ∧ E.B ρ b2 = (E.B ρ b || ((nums ρ l).take ((E.I ρ i).toNat + 1)).any out1)) := by
  apply propext
  show ((ints ρ x2 ++ vi (E.I ρ v).toNat (E.I ρ v).toNat == ints ρ x ++ encs ((nums ρ l).take (E.I ρ i).toNat) ++ enc1 ((nums ρ l).getD (E.I ρ i).toNat 0)) && (E.B ρ b2 == (E.B ρ b || ((nums ρ l).take ((E.I ρ i).toNat + 1)).any out1))) = true ↔ _
  rw [Bool.and_eq_true, beq_iff_eq, beq_iff_eq]
theorem z105 : (E.B ρ (.fn 105 (.pr X Y)) = true) = (viewF 0 43 (E.L ρ X) = viewF 0 43 (E.L ρ Y)) := by
  apply propext
  show (viewF 0 43 (E.L ρ X) == viewF 0 43 (E.L ρ Y)) = true ↔ _
  rw [beq_iff_eq]
theorem z106 : (E.B ρ (.fn 106 (.pr y X)) = true) = (ints ρ y = viewF 0 43 (E.L ρ X)) := by
  apply propext
  show (ints ρ y == viewF 0 43 (E.L ρ X)) = true ↔ _
  rw [beq_iff_eq]
theorem z109 : (E.B ρ (.fn 109 (.pr y (.pr k (.pr l i)))) = true) = (ints ρ y = flatK (E.I ρ k).toNat (E.L ρ l) (E.I ρ i).toNat) := by
  apply propext
  show (ints ρ y == flatK (E.I ρ k).toNat (E.L ρ l) (E.I ρ i).toNat) = true ↔ _
  rw [beq_iff_eq]
theorem z110 : (E.B ρ (.fn 110 (.pr y (.pr X (.pr j i)))) = true) = (ints ρ y = viewF 0 (E.I ρ j).toNat (E.L ρ X) ++ flatK (cellK (E.I ρ j).toNat) (gU (E.L ρ X) (E.I ρ j).toNat).toL (E.I ρ i).toNat) := by
  apply propext
  show (ints ρ y == viewF 0 (E.I ρ j).toNat (E.L ρ X) ++ flatK (cellK (E.I ρ j).toNat) (gU (E.L ρ X) (E.I ρ j).toNat).toL (E.I ρ i).toNat) = true ↔ _
  rw [beq_iff_eq]
theorem z111 : (E.B ρ (.fn 111 (.pr y (.pr z i))) = true) = ((ints ρ y).take (E.I ρ i).toNat = (ints ρ z).take (E.I ρ i).toNat) := by
  apply propext
  show ((ints ρ y).take (E.I ρ i).toNat == (ints ρ z).take (E.I ρ i).toNat) = true ↔ _
  rw [beq_iff_eq]
theorem z113 : (E.B ρ (.fn 113 (.pr y (.pr l (.pr i k)))) = true) = (ints ρ y = itemF (E.L ρ l) (E.I ρ i).toNat (E.I ρ k).toNat) := by
  apply propext
  show (ints ρ y == itemF (E.L ρ l) (E.I ρ i).toNat (E.I ρ k).toNat) = true ↔ _
  rw [beq_iff_eq]
theorem z114 : E.I ρ (.fn 114 (.pr l i)) = ((tgtsN ((E.L ρ l).take ((E.I ρ i).toNat * 5)) : Nat) : Int) := rfl
theorem z116 : E.I ρ (.fn 116 a) = flag1 (a.den ρ) := rfl
theorem z117 : E.I ρ (.fn 117 a) = ((U.size (a.den ρ) : Nat) : Int) := rfl
theorem z118 : (E.B ρ (.fn 118 (.pr k l)) = true) = (U.typs (E.L ρ l) (kindsU (E.I ρ k).toNat) [] = true) := rfl
theorem Wr.trans {x : List Int} {b : Bool} {L M : List Int} {s t : Bool} (h1 : Wr ρ x1 b1 x b L s) (h2 : Wr ρ x2 b2 (ints ρ x1) (E.B ρ b1) M t) : Wr ρ x2 b2 x b (L ++ M) (s || t) := by
  refine ⟨by rw [h2.1, h1.1, encs_append, List.append_assoc], ?_⟩
  rw [h2.2, h1.2, List.any_append]
  cases b <;> cases s <;> cases t <;> simp
theorem Wr.cast {x : List Int} {b : Bool} {L M : List Int} {s t : Bool} (h : Wr ρ x1 b1 x b L s) (hL : L = M) (hs : s = t) : Wr ρ x1 b1 x b M t := by
  subst hL; subst hs; exact h
theorem Wr.nil {s : Bool} (hs : s = false) : Wr ρ x b (ints ρ x) (E.B ρ b) [] s := ⟨by simp [encs], by simp [hs]⟩
/-! the kinds of rows -/
theorem ty0 (h : E.B ρ (.fn 118 (.pr (.int 0) l)) = true) {p : Nat} (hp : p < (E.L ρ l).length) : ∃ n, gU (E.L ρ l) p = .int n ∧ in64 n := by
  have h' : U.typs (E.L ρ l) [.int 3] [] = true := h
  obtain ⟨k, h1, h2⟩ := typ_get h' hp
  simp only [List.length_cons, List.length_nil, Nat.zero_add, Nat.mod_one, List.getElem?_cons_zero, Option.some.injEq] at h1
  subst h1; exact typ3 h2
theorem mod_row {i w j : Nat} (h : j < w) : (i * w + j) % w = j := by
  rw [Nat.add_comm, Nat.add_mul_mod_self_right, Nat.mod_eq_of_lt h]
theorem ty1 (h : E.B ρ (.fn 118 (.pr (.int 1) l)) = true) {i j : Nat} (hj : j < 12) (hp : i * 12 + j < (E.L ρ l).length) : (j < 9 → ∃ n, gU (E.L ρ l) (i * 12 + j) = .int n ∧ in64 n) ∧ (9 ≤ j → ∃ b, gU (E.L ρ l) (i * 12 + j) = .bool b) := by
  have h' : U.typs (E.L ρ l) (kindsU 1) [] = true := h
  obtain ⟨k, h1, h2⟩ := typ_get h' hp
  simp only [kindsU, List.length_cons, List.length_nil, Nat.zero_add, Nat.reduceAdd, mod_row hj] at h1
  rcases (show j = 0 ∨ j = 1 ∨ j = 2 ∨ j = 3 ∨ j = 4 ∨ j = 5 ∨ j = 6 ∨ j = 7 ∨ j = 8 ∨ j = 9 ∨ j = 10 ∨ j = 11 by omega) with rfl | rfl | rfl | rfl | rfl | rfl | rfl | rfl | rfl | rfl | rfl | rfl <;> simp only [List.getElem?_cons_succ, List.getElem?_cons_zero, Option.some.injEq] at h1 <;> subst h1 <;>
    first | exact ⟨fun _ => typ3 h2, fun h => absurd h (by omega)⟩ | exact ⟨fun h => absurd h (by omega), fun _ => typ8 h2⟩
theorem ty2 (h : E.B ρ (.fn 118 (.pr (.int 2) l)) = true) {i j : Nat} (hj : j < 5) (hp : i * 5 + j < (E.L ρ l).length) : (j < 4 → ∃ n, gU (E.L ρ l) (i * 5 + j) = .int n ∧ in64 n) ∧ (j = 4 → (∃ a n c t, gU (E.L ρ l) (i * 5 + j) = .bx a n c t) ∧ U.typs (gU (E.L ρ l) (i * 5 + j)).toL (kindsU 3) [] = true) := by
  have h' : U.typs (E.L ρ l) (kindsU 2) [] = true := h
  obtain ⟨k, h1, h2⟩ := typ_get h' hp
  simp only [kindsU, List.length_cons, List.length_nil, Nat.zero_add, Nat.reduceAdd, mod_row hj] at h1
  rcases (show j = 0 ∨ j = 1 ∨ j = 2 ∨ j = 3 ∨ j = 4 by omega) with rfl | rfl | rfl | rfl | rfl <;> simp only [List.getElem?_cons_succ, List.getElem?_cons_zero, Option.some.injEq] at h1 <;> subst h1 <;>
    first | exact ⟨fun _ => typ3 h2, fun h => absurd h (by omega)⟩ | exact ⟨fun h => absurd h (by omega), fun _ => typL h2⟩
theorem typs1 {ks : List U} : ∀ (us : List U) (p : List U), us.length ≤ p.length → (∀ j, j < us.length → U.typ (gU us j) (gU p j) = true) → U.typs us ks p = true
  | [], _, _, _ => by simp [U.typs]
  | u :: us, [], h, _ => by simp at h
  | u :: us, k :: p, h, hj => by
    have h0 := hj 0 (by simp)
    simp only [gU, List.getD_cons_zero] at h0
    simp only [U.typs, h0, Bool.true_and]
    exact typs1 us p (by simpa using h) (fun j hjl => by
      have := hj (j + 1) (by simp only [List.length_cons]; omega)
      simpa [gU] using this)
/-- a list of numbers, one after the other -/
theorem ty0_cons (ha : U.typ (a.den ρ) (.int 3) = true) (hb : E.B ρ (.fn 118 (.pr (.int 0) b)) = true) : E.B ρ (.fn 118 (.pr (.int 0) (.fn 23 (.pr a b)))) = true := by
  show U.typs (a.den ρ :: E.L ρ b) [.int 3] [] = true
  have hb' : U.typs (E.L ρ b) [.int 3] [] = true := hb
  simp only [U.typs, ha, Bool.true_and]
  exact hb'
theorem ty0_nil : E.B ρ (.fn 118 (.pr (.int 0) (.fn 10 a))) = true := rfl
theorem ty_int {n : Int} (h : in64 n) : U.typ (.int n) (.int 3) = true := by
  simp only [U.typ, decide_eq_true_eq]; exact ⟨by decide, h.1, h.2⟩
/-! ### a number, byte by byte -/
theorem num_int {u : U} {m : Int} (h : u = .int m) : num1 u = u.toI := by subst h; rfl
theorem nums_get {p : Nat} (hp : p < (E.L ρ l).length) : (nums ρ l).getD p 0 = num1 (gU (E.L ρ l) p) := by
  rw [nums, List.getD_eq_getElem?_getD, List.getElem?_map, gU, List.getD_eq_getElem?_getD, List.getElem?_eq_getElem hp]; rfl
theorem flat0 {l : List U} {i : Nat} : flatK 0 l i = (l.map num1).take i := by
  show (l.take i).map num1 = _
  rw [List.map_take]
theorem take_succ' {l : List Int} {i : Nat} (h : i < l.length) : l.take (i + 1) = l.take i ++ [l.getD i 0] := by
  rw [List.take_add_one, List.getD_eq_getElem?_getD, List.getElem?_eq_getElem h]; rfl
theorem nums_len : (nums ρ l).length = (E.L ρ l).length := by simp [nums]
theorem t103_start (h1 : E.B ρ (.fn 101 (.pr x1 (.pr b1 (.pr x (.pr b (.pr (.int 0) (.pr l i))))))) = true) (hi : 0 ≤ E.I ρ i) (hl : E.I ρ i < E.I ρ (.fn 0 l))
    (hn : (nums ρ l).getD (E.I ρ i).toNat 0 = E.I ρ n) (hv : E.I ρ v = (zig (E.I ρ n) : Int)) (hb : E.B ρ b2 = (E.B ρ b1 || out1 (E.I ρ n))) :
    E.B ρ (.fn 103 (.pr x1 (.pr b2 (.pr x (.pr b (.pr l (.pr i v))))))) = true := by
  rw [z101] at h1; rw [z103]
  obtain ⟨g1, g2⟩ := h1
  have hlt : (E.I ρ i).toNat < (nums ρ l).length := by rw [nums_len]; have := L_len (ρ := ρ) (l := l); omega
  simp only [show (E.I ρ (.int 0)).toNat = 0 from rfl, flat0, sizeK, Bool.or_false] at g1 g2
  refine ⟨?_, ?_⟩
  · rw [g1, hv, hn]; rfl
  · rw [hb, g2, take_succ' hlt, hn, List.any_append]
    simp [nums, Bool.or_assoc]
theorem t103_step (h : E.B ρ (.fn 103 (.pr x2 (.pr b2 (.pr x (.pr b (.pr l (.pr i v))))))) = true) (hv : 127 < E.I ρ v) (hA : E.I ρ A = 128 + E.I ρ v % 128) (hw : E.I ρ w = E.I ρ v / 128) :
    E.B ρ (.fn 103 (.pr (.fn 3 (.pr x2 (.fn 23 (.pr A (.fn 10 (.int 0)))))) (.pr b2 (.pr x (.pr b (.pr l (.pr i w))))))) = true := by
  rw [z103] at h ⊢
  obtain ⟨g1, g2⟩ := h
  refine ⟨?_, g2⟩
  rw [← g1, ints_app, ints_cons, ints_nil, List.append_assoc]
  congr 1
  obtain ⟨m, hm⟩ : ∃ m : Nat, E.I ρ v = m := ⟨(E.I ρ v).toNat, by omega⟩
  rw [vi_ge (x := (E.I ρ v).toNat) (by omega), hA, hw, hm]
  have e1 : ((m : Int) / 128).toNat = m / 128 := by omega
  have e2 : (128 + (m : Int) % 128) = ((128 + m % 128 : Nat) : Int) := by omega
  rw [e1, e2]; rfl
theorem t103_end (h : E.B ρ (.fn 103 (.pr x2 (.pr b2 (.pr x (.pr b (.pr l (.pr i v))))))) = true) (hv : E.I ρ v < 128) (h0 : 0 ≤ E.I ρ v) (hA : E.I ρ A = E.I ρ v) (hi : 0 ≤ E.I ρ i) (hl : E.I ρ i < E.I ρ (.fn 0 l)) (hj : E.I ρ j = E.I ρ i + 1) :
    E.B ρ (.fn 101 (.pr (.fn 3 (.pr x2 (.fn 23 (.pr A (.fn 10 (.int 0)))))) (.pr b2 (.pr x (.pr b (.pr (.int 0) (.pr l j))))))) = true := by
  rw [z103] at h; rw [z101]
  obtain ⟨g1, g2⟩ := h
  have hlt : (E.I ρ i).toNat < (nums ρ l).length := by rw [nums_len]; have := L_len (ρ := ρ) (l := l); omega
  have ej : (E.I ρ j).toNat = (E.I ρ i).toNat + 1 := by omega
  simp only [Wr, show (E.I ρ (.int 0)).toNat = 0 from rfl, flat0, sizeK, Bool.or_false, ej]
  refine ⟨?_, g2⟩
  rw [vi_lt (by omega)] at g1
  have e1 : [((E.I ρ v).toNat : Int)] = [E.I ρ A] := by rw [hA]; simp; omega
  rw [e1] at g1
  rw [ints_app, ints_cons, ints_nil, g1, show (List.map num1 (E.L ρ l)) = nums ρ l from rfl, take_succ' hlt, encs_append, List.append_assoc]
  simp [encs]
theorem t103_len (h : E.B ρ (.fn 103 (.pr x2 (.pr b2 (.pr x (.pr b (.pr l (.pr i v))))))) = true) (ht : E.B ρ (.fn 118 (.pr (.int 0) l)) = true) (hi : 0 ≤ E.I ρ i) (hl : E.I ρ i < E.I ρ (.fn 0 l)) :
    E.I ρ (.fn 0 x2) + 1 ≤ E.I ρ (.fn 0 x) + (10 * E.I ρ i + 10) := by
  rw [z103] at h
  have g := congrArg List.length h.1
  simp only [List.length_append] at g
  have hp := vi_pos (E.I ρ v).toNat (E.I ρ v).toNat
  have hall : ∀ n ∈ nums ρ l, in64 n := by
    intro n hn
    unfold nums at hn
    rw [List.mem_map] at hn
    obtain ⟨u, hu, rfl⟩ := hn
    obtain ⟨p, hp, hpu⟩ := List.getElem_of_mem hu
    obtain ⟨m, hm, hm2⟩ := ty0 ht hp
    rw [gU, List.getD_eq_getElem?_getD, List.getElem?_eq_getElem hp] at hm
    have : u = .int m := by rw [← hpu]; exact hm
    subst this; exact hm2
  have hlt : (E.I ρ i).toNat < (nums ρ l).length := by rw [nums_len]; have := L_len (ρ := ρ) (l := l); omega
  have h1 := encs_len ((nums ρ l).take (E.I ρ i).toNat) (fun n hn => hall n (List.mem_of_mem_take hn))
  have h2 : (enc1 ((nums ρ l).getD (E.I ρ i).toNat 0)).length ≤ 10 := by
    apply enc1_len
    rw [List.getD_eq_getElem?_getD, List.getElem?_eq_getElem hlt]
    exact hall _ (List.getElem_mem _)
  rw [List.length_take] at h1
  have a1 := ints_len (ρ := ρ) (l := x2)
  have a2 := ints_len (ρ := ρ) (l := x)
  omega
/-! the bytes' terms -/
theorem or128 : ∀ n : Fin 256, (BitVec.ofNat 8 n.val ||| BitVec.ofNat 8 128).toNat = 128 + n.val % 128 := by decide +kernel
theorem I_or (h0 : 0 ≤ E.I ρ v) : E.I ρ (.ar .or .u8 (.wr .u8 v) (.int 128)) = 128 + E.I ρ v % 128 := by
  show IntKind.u8.wrap (BitVec.ofInt 8 (IntKind.u8.wrap (E.I ρ v)) ||| BitVec.ofInt 8 128).toNat = _
  have e1 : IntKind.u8.wrap (E.I ρ v) = E.I ρ v % 256 := rfl
  obtain ⟨m, hm⟩ : ∃ m : Nat, E.I ρ v = m := ⟨(E.I ρ v).toNat, by omega⟩
  have e2 : BitVec.ofInt 8 (E.I ρ v % 256) = BitVec.ofNat 8 (m % 256) := by
    rw [hm]
    have : ((m : Int) % 256) = ((m % 256 : Nat) : Int) := by omega
    rw [this, BitVec.ofInt_natCast]
  have e3 : BitVec.ofInt 8 128 = BitVec.ofNat 8 128 := rfl
  rw [e1, e2, e3, or128 ⟨m % 256, by omega⟩]
  show ((128 + m % 256 % 128 : Nat) : Int) % 256 = _
  omega
theorem I_wr8 (h0 : 0 ≤ E.I ρ v) (h1 : E.I ρ v < 128) : E.I ρ (.wr .u8 v) = E.I ρ v := by
  show E.I ρ v % 256 = _
  omega
theorem I_shr : E.I ρ (.ar .shr .u64 v (.int 7)) = E.I ρ v / 128 := by
  show (E.I ρ v).fdiv (2 ^ (min (Int.toNat 7) 64)) = _
  rw [show (2 : Int) ^ (min (Int.toNat 7) 64) = 128 from rfl, Int.fdiv_eq_ediv_of_nonneg _ (by omega)]
theorem I_shl (n : E) : E.I ρ (.ar .shl .u64 (.wr .u64 n) (.int 1)) = (E.I ρ n % 18446744073709551616 * 2) % 18446744073709551616 := rfl
theorem zig_nn (hn : in64 (E.I ρ n)) (h0 : 0 ≤ E.I ρ n) : E.I ρ (.ar .shl .u64 (.wr .u64 n) (.int 1)) = (zig (E.I ρ n) : Int) := by
  unfold in64 at hn
  rw [I_shl]; unfold zig; rw [if_neg (by omega)]; omega
theorem zig_neg (hn : in64 (E.I ρ n)) (h0 : E.I ρ n < 0) : E.I ρ (.ar .xor .u64 (.int 18446744073709551615) (.ar .shl .u64 (.wr .u64 n) (.int 1))) = (zig (E.I ρ n) : Int) := by
  unfold in64 at hn
  have e0 : E.I ρ (.ar .shl .u64 (.wr .u64 n) (.int 1)) = 18446744073709551616 + 2 * E.I ρ n := by rw [I_shl]; omega
  show IntKind.u64.wrap (BitVec.ofInt 64 18446744073709551615 ^^^ BitVec.ofInt 64 (E.I ρ (.ar .shl .u64 (.wr .u64 n) (.int 1)))).toNat = _
  rw [e0]
  obtain ⟨m, hm⟩ : ∃ m : Nat, 18446744073709551616 + 2 * E.I ρ n = m := ⟨(18446744073709551616 + 2 * E.I ρ n).toNat, by omega⟩
  rw [hm, BitVec.ofInt_natCast, show BitVec.ofInt 64 18446744073709551615 = BitVec.allOnes 64 by decide, BitVec.allOnes_xor, BitVec.toNat_not, BitVec.toNat_ofNat]
  unfold zig; rw [if_pos h0]
  show ((2 ^ 64 - 1 - m % 2 ^ 64 : Nat) : Int) % 18446744073709551616 = _
  have : m % 2 ^ 64 = m := Nat.mod_eq_of_lt (by omega)
  rw [this]
  omega
/-! ### facts of the writer -/
theorem in64_nth (h : E.B ρ (.fn 118 (.pr (.int 0) l)) = true) (hi : 0 ≤ E.I ρ i) (hl : E.I ρ i < E.I ρ (.fn 0 l)) : in64 (E.I ρ (.fn 1 (.pr l i))) := by
  obtain ⟨n, h1, h2⟩ := ty0 h (p := (E.I ρ i).toNat) (by have := L_len (ρ := ρ) (l := l); omega)
  rw [I_nth, h1]; exact h2
theorem nums_nth (h : E.B ρ (.fn 118 (.pr (.int 0) l)) = true) (hi : 0 ≤ E.I ρ i) (hl : E.I ρ i < E.I ρ (.fn 0 l)) : (nums ρ l).getD (E.I ρ i).toNat 0 = E.I ρ (.fn 1 (.pr l i)) := by
  have hp : (E.I ρ i).toNat < (E.L ρ l).length := by have := L_len (ρ := ρ) (l := l); omega
  obtain ⟨n, h1, h2⟩ := ty0 h hp
  rw [nums_get hp, I_nth, h1]; rfl
theorem hb_t {m : Int} (h : E.B ρ b = true) : E.B ρ (.bool true) = (E.B ρ b || out1 m) := by rw [h]; rfl
theorem hb_lo {m : Int} (h : m < -2147483647) : E.B ρ (.bool true) = (E.B ρ b || out1 m) := by
  have : out1 m = true := decide_eq_true (Or.inl h)
  rw [this, Bool.or_true]; rfl
theorem hb_hi (h : ¬ E.B ρ b = true) (h' : ¬ E.I ρ n < -2147483647) : E.B ρ (.cmp .lss (.int 2147483647) n) = (E.B ρ b || out1 (E.I ρ n)) := by
  rw [Bool.not_eq_true] at h
  rw [h, Bool.false_or]
  show decide (2147483647 < E.I ρ n) = decide (E.I ρ n < -2147483647 ∨ 2147483647 < E.I ρ n)
  congr 1
  exact propext ⟨Or.inr, fun g => g.resolve_left h'⟩
theorem t101_zero (hi : E.I ρ i ≤ 0) : E.B ρ (.fn 101 (.pr x (.pr b (.pr x (.pr b (.pr (.int 0) (.pr l i))))))) = true := by
  rw [z101, show (E.I ρ i).toNat = 0 by omega]
  exact Wr.nil rfl
theorem t101_zero3 (hi : E.I ρ i ≤ 0) : E.B ρ (.fn 101 (.pr x (.pr b (.pr x (.pr b (.pr (.int 3) (.pr l i))))))) = true := by
  rw [z101, show (E.I ρ i).toNat = 0 by omega]
  exact Wr.nil rfl
theorem t101_eq (h : E.B ρ (.fn 101 (.pr x1 (.pr b1 (.pr x (.pr b (.pr k (.pr l i))))))) = true) (hi : E.I ρ j = E.I ρ i) : E.B ρ (.fn 101 (.pr x1 (.pr b1 (.pr x (.pr b (.pr k (.pr l j))))))) = true := by
  rw [z101] at h ⊢; rw [hi]; exact h
theorem t103_step0 (h : E.B ρ (.fn 103 (.pr (.fn 10 (.int 0)) (.pr b2 (.pr x (.pr b (.pr l (.pr i v))))))) = true) (hv : 127 < E.I ρ v) (hA : E.I ρ A = 128 + E.I ρ v % 128) (hw : E.I ρ w = E.I ρ v / 128) :
    E.B ρ (.fn 103 (.pr (.fn 23 (.pr A (.fn 10 (.int 0)))) (.pr b2 (.pr x (.pr b (.pr l (.pr i w))))))) = true := by
  have := t103_step h hv hA hw
  rw [z103] at this ⊢
  rwa [ints_app, ints_nil, List.nil_append] at this
theorem t103_end0 (h : E.B ρ (.fn 103 (.pr (.fn 10 (.int 0)) (.pr b2 (.pr x (.pr b (.pr l (.pr i v))))))) = true) (hv : E.I ρ v < 128) (h0 : 0 ≤ E.I ρ v) (hA : E.I ρ A = E.I ρ v) (hi : 0 ≤ E.I ρ i) (hl : E.I ρ i < E.I ρ (.fn 0 l)) (hj : E.I ρ j = E.I ρ i + 1) :
    E.B ρ (.fn 101 (.pr (.fn 23 (.pr A (.fn 10 (.int 0)))) (.pr b2 (.pr x (.pr b (.pr (.int 0) (.pr l j))))))) = true := by
  have := t103_end h hv h0 hA hi hl hj
  rw [z101] at this ⊢
  unfold Wr at this ⊢
  rwa [ints_app, ints_nil, List.nil_append] at this
theorem zig_rng {m : Int} (h : in64 m) (hz : E.I ρ v = (zig m : Int)) : 0 ≤ E.I ρ v ∧ E.I ρ v ≤ 18446744073709551615 := by
  have := zig_lt h; omega
theorem t101_flag (h1 : E.B ρ (.fn 101 (.pr x1 (.pr b1 (.pr x (.pr b (.pr (.int 3) (.pr l i))))))) = true) (h2 : E.B ρ (.fn 101 (.pr x2 (.pr b2 (.pr x1 (.pr b1 (.pr (.int 0) (.pr A (.int 1)))))))) = true)
    (hA : nums ρ A = [flag1 (gU (E.L ρ l) (E.I ρ i).toNat)]) (hi : 0 ≤ E.I ρ i) (hl : E.I ρ i < E.I ρ (.fn 0 l)) (hj : E.I ρ j = E.I ρ i + 1) : E.B ρ (.fn 101 (.pr x2 (.pr b2 (.pr x (.pr b (.pr (.int 3) (.pr l j))))))) = true := by
  rw [z101] at h1 h2 ⊢
  have hp : (E.I ρ i).toNat < (E.L ρ l).length := by have := L_len (ρ := ρ) (l := l); omega
  refine (h1.trans h2).cast ?_ rfl
  rw [show (E.I ρ j).toNat = (E.I ρ i).toNat + 1 by omega, show (E.I ρ (.int 0)).toNat = 0 from rfl, flat0, show (List.map num1 (E.L ρ A)) = nums ρ A from rfl, hA]
  show ((E.L ρ l).take _).map flag1 ++ [flag1 (gU (E.L ρ l) (E.I ρ i).toNat)] = ((E.L ρ l).take ((E.I ρ i).toNat + 1)).map flag1
  rw [List.take_add_one, List.map_append, List.getElem?_eq_getElem hp]
  simp [gU, List.getD_eq_getElem?_getD, List.getElem?_eq_getElem hp]
theorem flag_yes (h : E.B ρ (.fn 1 (.pr l i)) = true) : nums ρ (.fn 23 (.pr (.int 1) (.fn 10 (.int 0)))) = [flag1 (gU (E.L ρ l) (E.I ρ i).toNat)] := by
  have h' : (gU (E.L ρ l) (E.I ρ i).toNat).toB = true := h
  show [(1 : Int)] = _
  unfold flag1; rw [h']
theorem flag_no (h : ¬ E.B ρ (.fn 1 (.pr l i)) = true) : nums ρ (.fn 23 (.pr (.int 0) (.fn 10 (.int 0)))) = [flag1 (gU (E.L ρ l) (E.I ρ i).toNat)] := by
  have h' : (gU (E.L ρ l) (E.I ρ i).toNat).toB = false := by rw [← Bool.not_eq_true]; exact h
  show [(0 : Int)] = _
  unfold flag1; rw [h']
theorem ty0_head (h : E.B ρ (.fn 118 (.pr (.int 0) (.fn 23 (.pr n a)))) = true) : num1 (n.den ρ) = E.I ρ n := by
  obtain ⟨m, h1, _⟩ := ty0 h (p := 0) (by rw [L_cons]; simp)
  have h1' : n.den ρ = .int m := h1
  rw [num_int h1']; rfl
theorem t102_of {c : E} (h : E.B ρ (.fn 101 (.pr x1 (.pr b1 (.pr x (.pr c (.pr (.int 0) (.pr (.fn 23 (.pr n (.fn 10 a))) (.int 1)))))))) = true) (ht : E.B ρ (.fn 118 (.pr (.int 0) (.fn 23 (.pr n (.fn 10 a))))) = true)
    (hc : E.B ρ c = (E.B ρ b || decide (E.I ρ m < E.I ρ n))) : E.B ρ (.fn 102 (.pr x1 (.pr b1 (.pr x (.pr b (.pr n m)))))) = true := by
  rw [z101] at h; rw [z102]
  have e : flatK (E.I ρ (.int 0)).toNat (E.L ρ (.fn 23 (.pr n (.fn 10 a)))) (E.I ρ (.int 1)).toNat = [E.I ρ n] := by
    rw [← ty0_head ht]; rfl
  rw [e] at h
  refine ⟨h.1, ?_⟩
  rw [h.2, hc]
  show ((E.B ρ b || decide (E.I ρ m < E.I ρ n)) || false || _) = _
  rw [Bool.or_false]
theorem hc_yes {q : Bool} (h : E.B ρ b = true) : E.B ρ (.bool true) = (E.B ρ b || q) := by rw [h]; rfl
theorem hc_no (h : ¬ E.B ρ b = true) : E.B ρ (.cmp .lss m n) = (E.B ρ b || decide (E.I ρ m < E.I ρ n)) := by
  rw [Bool.not_eq_true] at h
  rw [h, Bool.false_or]; rfl
/-! rows of objects and items -/
abbrev cE (l i : E) (w j : Int) : E := .fn 1 (.pr l (.fn 6 (.pr (.fn 8 (.pr i (.int w))) (.int j))))
theorem cE_den {w j : Nat} (hi : 0 ≤ E.I ρ i) : (cE l i (w : Int) (j : Int)).den ρ = gU (E.L ρ l) ((E.I ρ i).toNat * w + j) := by
  show gU (E.L ρ l) (E.I ρ i * (w : Int) + (j : Int)).toNat = _
  congr 1
  obtain ⟨q, hq⟩ : ∃ q : Nat, E.I ρ i = q := ⟨(E.I ρ i).toNat, by omega⟩
  rw [hq, ← Int.natCast_mul, ← Int.natCast_add]; rfl
theorem row_lt {w : Nat} (h0 : 0 ≤ E.I ρ i) (hl : E.I ρ i < E.I ρ (.fn 9 (.pr l (.int (w : Int))))) : ((E.I ρ i).toNat + 1) * w ≤ (E.L ρ l).length := by
  rw [rows_I, Int.toNat_natCast] at hl
  have h : (E.I ρ i).toNat + 1 ≤ (E.L ρ l).length / w := by omega
  calc ((E.I ρ i).toNat + 1) * w ≤ ((E.L ρ l).length / w) * w := Nat.mul_le_mul_right _ h
    _ ≤ _ := Nat.div_mul_le_self _ _
theorem flag_num (h : ∃ b, y.den ρ = .bool b) : num1 (y.den ρ) = flag1 (y.den ρ) := by
  obtain ⟨b, h⟩ := h; rw [h]; rfl
/-- a list of a view's objects: one more -/
theorem t101_obj (ht : E.B ρ (.fn 118 (.pr (.int 1) l)) = true) (h0 : E.B ρ (.fn 101 (.pr x (.pr b (.pr A (.pr c (.pr (.int 1) (.pr l i))))))) = true)
    (h1 : E.B ρ (.fn 101 (.pr x1 (.pr b1 (.pr x (.pr b (.pr (.int 0) (.pr (.fn 23 (.pr (cE l i 12 0) (.fn 23 (.pr (cE l i 12 1) (.fn 23 (.pr (cE l i 12 2) (.fn 23 (.pr (cE l i 12 3) (.fn 23 (.pr (cE l i 12 4) (.fn 23 (.pr (cE l i 12 5) (.fn 23 (.pr (cE l i 12 6) (.fn 23 (.pr (cE l i 12 7) (.fn 23 (.pr (cE l i 12 8) (.fn 10 (.int 0)))))))))))))))))))) (.int 9)))))))) = true)
    (h2 : E.B ρ (.fn 101 (.pr x2 (.pr b2 (.pr x1 (.pr b1 (.pr (.int 3) (.pr (.fn 23 (.pr (cE l i 12 9) (.fn 23 (.pr (cE l i 12 10) (.fn 23 (.pr (cE l i 12 11) (.fn 10 (.int 0)))))))) (.int 3)))))))) = true)
    (hi : 0 ≤ E.I ρ i) (hl : E.I ρ i < E.I ρ (.fn 9 (.pr l (.int 12)))) (hj : E.I ρ j = E.I ρ i + 1) : E.B ρ (.fn 101 (.pr x2 (.pr b2 (.pr A (.pr c (.pr (.int 1) (.pr l j))))))) = true := by
  have hlen : ((E.I ρ i).toNat + 1) * 12 ≤ (E.L ρ l).length := row_lt hi hl
  rw [z101] at h0 h1 h2 ⊢
  refine ((h0.trans h1).trans h2).cast ?_ ?_
  · rw [show (E.I ρ j).toNat = (E.I ρ i).toNat + 1 by omega]
    show flatK 1 (E.L ρ l) (E.I ρ i).toNat ++ flatK 0 _ 9 ++ flatK 3 _ 3 = flatK 1 (E.L ρ l) ((E.I ρ i).toNat + 1)
    rw [objs_step hlen (fun q hq hq' => by
      obtain ⟨bb, hb⟩ := (ty1 ht (i := (E.I ρ i).toNat) (j := q) hq' (by omega)).2 hq
      rw [hb]; rfl)]
    simp only [flatK, L_cons, L_nil]
    have d0 : (cE l i 12 0).den ρ = gU (E.L ρ l) ((E.I ρ i).toNat * 12 + 0) := cE_den (w := 12) (j := 0) hi
    have d1 : (cE l i 12 1).den ρ = gU (E.L ρ l) ((E.I ρ i).toNat * 12 + 1) := cE_den (w := 12) (j := 1) hi
    have d2 : (cE l i 12 2).den ρ = gU (E.L ρ l) ((E.I ρ i).toNat * 12 + 2) := cE_den (w := 12) (j := 2) hi
    have d3 : (cE l i 12 3).den ρ = gU (E.L ρ l) ((E.I ρ i).toNat * 12 + 3) := cE_den (w := 12) (j := 3) hi
    have d4 : (cE l i 12 4).den ρ = gU (E.L ρ l) ((E.I ρ i).toNat * 12 + 4) := cE_den (w := 12) (j := 4) hi
    have d5 : (cE l i 12 5).den ρ = gU (E.L ρ l) ((E.I ρ i).toNat * 12 + 5) := cE_den (w := 12) (j := 5) hi
    have d6 : (cE l i 12 6).den ρ = gU (E.L ρ l) ((E.I ρ i).toNat * 12 + 6) := cE_den (w := 12) (j := 6) hi
    have d7 : (cE l i 12 7).den ρ = gU (E.L ρ l) ((E.I ρ i).toNat * 12 + 7) := cE_den (w := 12) (j := 7) hi
    have d8 : (cE l i 12 8).den ρ = gU (E.L ρ l) ((E.I ρ i).toNat * 12 + 8) := cE_den (w := 12) (j := 8) hi
    have d9 : (cE l i 12 9).den ρ = gU (E.L ρ l) ((E.I ρ i).toNat * 12 + 9) := cE_den (w := 12) (j := 9) hi
    have d10 : (cE l i 12 10).den ρ = gU (E.L ρ l) ((E.I ρ i).toNat * 12 + 10) := cE_den (w := 12) (j := 10) hi
    have d11 : (cE l i 12 11).den ρ = gU (E.L ρ l) ((E.I ρ i).toNat * 12 + 11) := cE_den (w := 12) (j := 11) hi
    rw [d0, d1, d2, d3, d4, d5, d6, d7, d8, d9, d10, d11]
    simp
  · show (sizeK 1 (E.L ρ l) _ || false || false) = _
    rw [Bool.or_false, Bool.or_false]; rfl
theorem ty0_I (h : ∃ m, a.den ρ = .int m) (h0 : -9223372036854775808 ≤ E.I ρ a) (h1 : E.I ρ a ≤ 9223372036854775807) (hb : E.B ρ (.fn 118 (.pr (.int 0) b)) = true) : E.B ρ (.fn 118 (.pr (.int 0) (.fn 23 (.pr a b)))) = true := by
  obtain ⟨m, hm⟩ := h
  refine ty0_cons ?_ hb
  have e : E.I ρ a = m := by show (a.den ρ).toI = m; rw [hm]; rfl
  rw [hm]; exact ty_int ⟨by omega, by omega⟩
theorem ty0_c (h : ∃ m, a.den ρ = .int m ∧ in64 m) (hb : E.B ρ (.fn 118 (.pr (.int 0) b)) = true) : E.B ρ (.fn 118 (.pr (.int 0) (.fn 23 (.pr a b)))) = true := by
  obtain ⟨m, hm, h2⟩ := h
  refine ty0_cons ?_ hb
  rw [hm]; exact ty_int h2
theorem t118_obj (ht : E.B ρ (.fn 118 (.pr (.int 1) l)) = true) (hi : 0 ≤ E.I ρ i) (hl : E.I ρ i < E.I ρ (.fn 9 (.pr l (.int 12)))) : E.B ρ (.fn 118 (.pr (.int 0) (.fn 23 (.pr (cE l i 12 0) (.fn 23 (.pr (cE l i 12 1) (.fn 23 (.pr (cE l i 12 2) (.fn 23 (.pr (cE l i 12 3) (.fn 23 (.pr (cE l i 12 4) (.fn 23 (.pr (cE l i 12 5) (.fn 23 (.pr (cE l i 12 6) (.fn 23 (.pr (cE l i 12 7) (.fn 23 (.pr (cE l i 12 8) (.fn 10 (.int 0)))))))))))))))))))))) = true := by
  have hlen : ((E.I ρ i).toNat + 1) * 12 ≤ (E.L ρ l).length := row_lt hi hl
  have g : ∀ j : Nat, j < 9 → ∃ m, (cE l i 12 (j : Int)).den ρ = .int m ∧ in64 m := fun j hj => by
    rw [show (cE l i 12 (j : Int)).den ρ = gU (E.L ρ l) ((E.I ρ i).toNat * 12 + j) from cE_den (w := 12) (j := j) hi]
    exact (ty1 ht (i := (E.I ρ i).toNat) (j := j) (by omega) (by omega)).1 hj
  exact ty0_c (g 0 (by omega)) (ty0_c (g 1 (by omega)) (ty0_c (g 2 (by omega)) (ty0_c (g 3 (by omega)) (ty0_c (g 4 (by omega)) (ty0_c (g 5 (by omega)) (ty0_c (g 6 (by omega)) (ty0_c (g 7 (by omega)) (ty0_c (g 8 (by omega)) ty0_nil))))))))
theorem ty2' (ht : E.B ρ (.fn 118 (.pr (.int 2) l)) = true) (hi : 0 ≤ E.I ρ i) (hl : E.I ρ i < E.I ρ (.fn 9 (.pr l (.int 5)))) :
    (∀ j, j < 4 → ∃ m, gU (E.L ρ l) ((E.I ρ i).toNat * 5 + j) = .int m ∧ in64 m) ∧ (∃ a n c t, gU (E.L ρ l) ((E.I ρ i).toNat * 5 + 4) = .bx a n c t) ∧ U.typs (gU (E.L ρ l) ((E.I ρ i).toNat * 5 + 4)).toL (kindsU 3) [] = true := by
  have hlen : ((E.I ρ i).toNat + 1) * 5 ≤ (E.L ρ l).length := row_lt hi hl
  have h4 := (ty2 ht (i := (E.I ρ i).toNat) (j := 4) (by omega) (by omega)).2 rfl
  exact ⟨fun j hj => (ty2 ht (i := (E.I ρ i).toNat) (j := j) (by omega) (by omega)).1 hj, h4.1, h4.2⟩
theorem t118_it (ht : E.B ρ (.fn 118 (.pr (.int 2) l)) = true) (hi : 0 ≤ E.I ρ i) (hl : E.I ρ i < E.I ρ (.fn 9 (.pr l (.int 5)))) : E.B ρ (.fn 118 (.pr (.int 0) (.fn 23 (.pr (cE l i 5 0) (.fn 23 (.pr (cE l i 5 1) (.fn 23 (.pr (cE l i 5 2) (.fn 23 (.pr (cE l i 5 3) (.fn 10 (.int 0)))))))))))) = true := by
  have g : ∀ j : Nat, j < 4 → ∃ m, (cE l i 5 (j : Int)).den ρ = .int m ∧ in64 m := fun j hj => by
    rw [show (cE l i 5 (j : Int)).den ρ = gU (E.L ρ l) ((E.I ρ i).toNat * 5 + j) from cE_den (w := 5) (j := j) hi]
    exact (ty2' ht hi hl).1 j hj
  exact ty0_c (g 0 (by omega)) (ty0_c (g 1 (by omega)) (ty0_c (g 2 (by omega)) (ty0_c (g 3 (by omega)) ty0_nil)))
theorem t118_tgt (ht : E.B ρ (.fn 118 (.pr (.int 2) l)) = true) (hi : 0 ≤ E.I ρ i) (hl : E.I ρ i < E.I ρ (.fn 9 (.pr l (.int 5)))) (hk : 0 ≤ E.I ρ k) (hkl : E.I ρ k < E.I ρ (.fn 9 (.pr (cE l i 5 4) (.int 2)))) : E.B ρ (.fn 118 (.pr (.int 0) (.fn 23 (.pr (cE (cE l i 5 4) k 2 0) (.fn 23 (.pr (cE (cE l i 5 4) k 2 1) (.fn 10 (.int 0)))))))) = true := by
  have h3 := (ty2' ht hi hl).2.2
  have d4 : (cE l i 5 4).den ρ = gU (E.L ρ l) ((E.I ρ i).toNat * 5 + 4) := cE_den (w := 5) (j := 4) hi
  have hL : E.L ρ (cE l i 5 4) = (gU (E.L ρ l) ((E.I ρ i).toNat * 5 + 4)).toL := by show ((cE l i 5 4).den ρ).toL = _; rw [d4]
  have hlen : ((E.I ρ k).toNat + 1) * 2 ≤ (E.L ρ (cE l i 5 4)).length := row_lt hk hkl
  have g : ∀ j : Nat, j < 2 → ∃ m, (cE (cE l i 5 4) k 2 (j : Int)).den ρ = .int m ∧ in64 m := fun j hj => by
    rw [show (cE (cE l i 5 4) k 2 (j : Int)).den ρ = gU (E.L ρ (cE l i 5 4)) ((E.I ρ k).toNat * 2 + j) from cE_den (w := 2) (j := j) hk]
    rw [hL] at hlen ⊢
    obtain ⟨kk, h1, h2⟩ := typ_get h3 (p := (E.I ρ k).toNat * 2 + j) (by omega)
    simp only [kindsU, List.length_cons, List.length_nil, Nat.zero_add, Nat.reduceAdd, mod_row hj] at h1
    rcases (show j = 0 ∨ j = 1 by omega) with rfl | rfl <;> simp only [List.getElem?_cons_succ, List.getElem?_cons_zero, Option.some.injEq] at h1 <;> subst h1 <;> exact typ3 h2
  exact ty0_c (g 0 (by omega)) (ty0_c (g 1 (by omega)) ty0_nil)
theorem t101_head1 (h : E.B ρ (.fn 102 (.pr x1 (.pr b1 (.pr x (.pr b (.pr (.fn 9 (.pr l (.int 12))) (.int 1000))))))) = true) : E.B ρ (.fn 101 (.pr x1 (.pr b1 (.pr x (.pr b (.pr (.int 1) (.pr l (.int 0)))))))) = true := by
  rw [z102] at h; rw [z101]
  refine h.cast ?_ ?_
  · show [E.I ρ _] = _ :: ((E.L ρ l).take (0 * 12)).map num1
    rw [rows_I, Nat.zero_mul, List.take_zero]; rfl
  · show decide ((1000 : Int) < E.I ρ _) = decide (1000 < (E.L ρ l).length / 12)
    rw [rows_I, show (12 : Int).toNat = 12 from rfl]
    congr 1; exact propext ⟨fun g => by omega, fun g => by omega⟩
theorem t101_head2 (h : E.B ρ (.fn 102 (.pr x1 (.pr b1 (.pr x (.pr b (.pr (.fn 9 (.pr l (.int 5))) (.int 1000))))))) = true) : E.B ρ (.fn 101 (.pr x1 (.pr b1 (.pr x (.pr b (.pr (.int 2) (.pr l (.int 0)))))))) = true := by
  rw [z102] at h; rw [z101]
  refine h.cast ?_ ?_
  · show [E.I ρ _] = _ :: ((E.L ρ l).take (0 * 5)).flatMap tgt1
    rw [rows_I, Nat.zero_mul, List.take_zero]; rfl
  · show decide ((1000 : Int) < E.I ρ _) = (decide (1000 < (E.L ρ l).length / 5) || ((E.L ρ l).take (0 * 5)).any tgtBad)
    rw [rows_I, show (5 : Int).toNat = 5 from rfl, Nat.zero_mul, List.take_zero, List.any_nil, Bool.or_false]
    congr 1; exact propext ⟨fun g => by omega, fun g => by omega⟩
theorem t107_start (ht : E.B ρ (.fn 118 (.pr (.int 2) l)) = true) (h0 : E.B ρ (.fn 101 (.pr x (.pr b (.pr A (.pr c (.pr (.int 2) (.pr l i))))))) = true)
    (h1 : E.B ρ (.fn 101 (.pr x1 (.pr b1 (.pr x (.pr b (.pr (.int 0) (.pr (.fn 23 (.pr (cE l i 5 0) (.fn 23 (.pr (cE l i 5 1) (.fn 23 (.pr (cE l i 5 2) (.fn 23 (.pr (cE l i 5 3) (.fn 10 (.int 0)))))))))) (.int 4)))))))) = true)
    (h2 : E.B ρ (.fn 102 (.pr x2 (.pr b2 (.pr x1 (.pr b1 (.pr (.fn 9 (.pr (cE l i 5 4) (.int 2))) (.int 16))))))) = true)
    (hi : 0 ≤ E.I ρ i) (hl : E.I ρ i < E.I ρ (.fn 9 (.pr l (.int 5)))) : E.B ρ (.fn 107 (.pr x2 (.pr b2 (.pr A (.pr c (.pr l (.pr i (.int 0)))))))) = true := by
  have hlen : ((E.I ρ i).toNat + 1) * 5 ≤ (E.L ρ l).length := row_lt hi hl
  have d0 : (cE l i 5 0).den ρ = gU (E.L ρ l) ((E.I ρ i).toNat * 5 + 0) := cE_den (w := 5) (j := 0) hi
  have d1 : (cE l i 5 1).den ρ = gU (E.L ρ l) ((E.I ρ i).toNat * 5 + 1) := cE_den (w := 5) (j := 1) hi
  have d2 : (cE l i 5 2).den ρ = gU (E.L ρ l) ((E.I ρ i).toNat * 5 + 2) := cE_den (w := 5) (j := 2) hi
  have d3 : (cE l i 5 3).den ρ = gU (E.L ρ l) ((E.I ρ i).toNat * 5 + 3) := cE_den (w := 5) (j := 3) hi
  have d4 : (cE l i 5 4).den ρ = gU (E.L ρ l) ((E.I ρ i).toNat * 5 + 4) := cE_den (w := 5) (j := 4) hi
  have hT := ty2' ht hi hl
  have hL : E.L ρ (cE l i 5 4) = (gU (E.L ρ l) ((E.I ρ i).toNat * 5 + 4)).toL := by show ((cE l i 5 4).den ρ).toL = _; rw [d4]
  rw [z101] at h0 h1; rw [z102] at h2; rw [z107]
  refine ((h0.trans h1).trans h2).cast ?_ ?_
  · show flatK 2 (E.L ρ l) (E.I ρ i).toNat ++ flatK 0 _ 4 ++ _ = itemF (E.L ρ l) (E.I ρ i).toNat 0
    rw [items_head hlen, rows_I, hL]
    simp only [flatK, L_cons, L_nil]
    rw [d0, d1, d2, d3]
    simp
  · show (sizeK 2 (E.L ρ l) (E.I ρ i).toNat || false || decide ((16 : Int) < _)) = _
    rw [itemB_eq hlen (fun j hj => by obtain ⟨m, hm, _⟩ := hT.1 j hj; rw [hm]; simp [tgtBad, U.toL]), Bool.or_false, rows_I, hL, show (2 : Int).toNat = 2 from rfl]
    congr 1
    show decide _ = decide _
    congr 1; exact propext ⟨fun g => by omega, fun g => by omega⟩
theorem t107_step (h0 : E.B ρ (.fn 107 (.pr x (.pr b (.pr A (.pr c (.pr l (.pr i k))))))) = true) (h1 : E.B ρ (.fn 101 (.pr x1 (.pr b1 (.pr x (.pr b (.pr (.int 0) (.pr (.fn 23 (.pr (cE (cE l i 5 4) k 2 0) (.fn 23 (.pr (cE (cE l i 5 4) k 2 1) (.fn 10 (.int 0)))))) (.int 2)))))))) = true)
    (hi : 0 ≤ E.I ρ i) (hk : 0 ≤ E.I ρ k) (hkl : E.I ρ k < E.I ρ (.fn 9 (.pr (cE l i 5 4) (.int 2)))) (hj : E.I ρ j = E.I ρ k + 1) : E.B ρ (.fn 107 (.pr x1 (.pr b1 (.pr A (.pr c (.pr l (.pr i j))))))) = true := by
  have d4 : (cE l i 5 4).den ρ = gU (E.L ρ l) ((E.I ρ i).toNat * 5 + 4) := cE_den (w := 5) (j := 4) hi
  have hL : E.L ρ (cE l i 5 4) = (gU (E.L ρ l) ((E.I ρ i).toNat * 5 + 4)).toL := by show ((cE l i 5 4).den ρ).toL = _; rw [d4]
  have hlen : ((E.I ρ k).toNat + 1) * 2 ≤ (E.L ρ (cE l i 5 4)).length := row_lt hk hkl
  have e0 : (cE (cE l i 5 4) k 2 0).den ρ = gU (E.L ρ (cE l i 5 4)) ((E.I ρ k).toNat * 2 + 0) := cE_den (w := 2) (j := 0) hk
  have e1 : (cE (cE l i 5 4) k 2 1).den ρ = gU (E.L ρ (cE l i 5 4)) ((E.I ρ k).toNat * 2 + 1) := cE_den (w := 2) (j := 1) hk
  rw [z107] at h0 ⊢; rw [z101] at h1
  rw [hL] at hlen e0 e1
  refine (h0.trans h1).cast ?_ ?_
  · rw [show (E.I ρ j).toNat = (E.I ρ k).toNat + 1 by omega, items_tgt hlen]
    congr 1
    show flatK 0 _ 2 = _
    simp only [flatK, L_cons, L_nil]
    rw [e0, e1]; rfl
  · show (_ || false) = _
    rw [Bool.or_false]
theorem t107_end (ht : E.B ρ (.fn 118 (.pr (.int 2) l)) = true) (h0 : E.B ρ (.fn 107 (.pr x (.pr b (.pr A (.pr c (.pr l (.pr i k))))))) = true)
    (hi : 0 ≤ E.I ρ i) (hl : E.I ρ i < E.I ρ (.fn 9 (.pr l (.int 5)))) (hk : E.I ρ k = E.I ρ (.fn 9 (.pr (cE l i 5 4) (.int 2)))) (hj : E.I ρ j = E.I ρ i + 1) : E.B ρ (.fn 101 (.pr x (.pr b (.pr A (.pr c (.pr (.int 2) (.pr l j))))))) = true := by
  have hlen : ((E.I ρ i).toNat + 1) * 5 ≤ (E.L ρ l).length := row_lt hi hl
  have d4 : (cE l i 5 4).den ρ = gU (E.L ρ l) ((E.I ρ i).toNat * 5 + 4) := cE_den (w := 5) (j := 4) hi
  have hL : E.L ρ (cE l i 5 4) = (gU (E.L ρ l) ((E.I ρ i).toNat * 5 + 4)).toL := by show ((cE l i 5 4).den ρ).toL = _; rw [d4]
  have hT := ty2' ht hi hl
  rw [z107] at h0; rw [z101]
  refine h0.cast ?_ ?_
  · show _ = flatK 2 (E.L ρ l) (E.I ρ j).toNat
    rw [show (E.I ρ j).toNat = (E.I ρ i).toNat + 1 by omega]
    exact items_end hlen (by rw [hk, rows_I, hL]; rfl) (fun q hq => by obtain ⟨m, hm, _⟩ := hT.1 q hq; rw [hm]; rfl) hT.2.1
  · show itemB _ _ = sizeK 2 _ (E.I ρ j).toNat
    rw [show (E.I ρ j).toNat = (E.I ρ i).toNat + 1 by omega]; rfl
/-! how many targets -/
theorem tg_nn : 0 ≤ E.I ρ (.fn 114 (.pr l i)) := by rw [z114]; omega
theorem tg_zero (h : E.I ρ i ≤ 0) : E.I ρ (.fn 114 (.pr l i)) = 0 := by
  rw [z114, show (E.I ρ i).toNat = 0 by omega]; simp [tgtsN]
theorem tg_eq (h : E.I ρ i = E.I ρ j) : E.I ρ (.fn 114 (.pr l i)) = E.I ρ (.fn 114 (.pr l j)) := by rw [z114, z114, h]
theorem tg_mono (h : E.I ρ i ≤ E.I ρ j) : E.I ρ (.fn 114 (.pr l i)) ≤ E.I ρ (.fn 114 (.pr l j)) := by
  rw [z114, z114]
  have : tgtsN ((E.L ρ l).take ((E.I ρ i).toNat * 5)) ≤ tgtsN ((E.L ρ l).take ((E.I ρ j).toNat * 5)) := tgts_mono (Nat.mul_le_mul_right _ (by omega))
  omega
theorem tg_step (ht : E.B ρ (.fn 118 (.pr (.int 2) l)) = true) (hi : 0 ≤ E.I ρ i) (hl : E.I ρ i < E.I ρ (.fn 9 (.pr l (.int 5)))) (hj : E.I ρ j = E.I ρ i + 1) :
    E.I ρ (.fn 114 (.pr l j)) = E.I ρ (.fn 114 (.pr l i)) + E.I ρ (.fn 9 (.pr (.fn 1 (.pr l (.fn 6 (.pr (.fn 8 (.pr i (.int 5))) (.int 4))))) (.int 2))) := by
  have hlen : ((E.I ρ i).toNat + 1) * 5 ≤ (E.L ρ l).length := row_lt hi hl
  have d4 : (cE l i 5 4).den ρ = gU (E.L ρ l) ((E.I ρ i).toNat * 5 + 4) := cE_den (w := 5) (j := 4) hi
  have hL : E.L ρ (cE l i 5 4) = (gU (E.L ρ l) ((E.I ρ i).toNat * 5 + 4)).toL := by show ((cE l i 5 4).den ρ).toL = _; rw [d4]
  have hT := ty2' ht hi hl
  rw [z114, z114, rows_I, hL, show (E.I ρ j).toNat = (E.I ρ i).toNat + 1 by omega, tgts_step hlen (fun q hq => by obtain ⟨m, hm, _⟩ := hT.1 q hq; rw [hm]; rfl)]
  rw [Int.natCast_add]; rfl
theorem tg_le (ht : E.B ρ (.fn 118 (.pr (.int 2) l)) = true) (hi : 0 ≤ E.I ρ i) (hl : E.I ρ i < E.I ρ (.fn 9 (.pr l (.int 5)))) :
    E.I ρ (.fn 114 (.pr l i)) + E.I ρ (.fn 9 (.pr (.fn 1 (.pr l (.fn 6 (.pr (.fn 8 (.pr i (.int 5))) (.int 4))))) (.int 2))) ≤ E.I ρ (.fn 114 (.pr l (.fn 9 (.pr l (.int 5))))) := by
  rw [← tg_step ht hi hl (j := .fn 6 (.pr i (.int 1))) rfl]
  refine tg_mono ?_
  show E.I ρ i + 1 ≤ _
  omega
theorem rows_nn {w : Int} : 0 ≤ E.I ρ (.fn 9 (.pr l (.int w))) := by rw [rows_I]; exact Int.natCast_nonneg _
end
end Go.SX

set_option linter.unusedVariables false
set_option linter.unusedSimpArgs false
namespace Go.SX
/-! ### Views as a whole -/
theorem viewF33 (x : List U) : viewF 0 33 x = [num1 (gU x 0)] ++ ([num1 (gU x 1)] ++ ([num1 (gU x 2)] ++ ([num1 (gU x 3)] ++ ([num1 (gU x 4)] ++ ([num1 (gU x 5)] ++ ([num1 (gU x 6)] ++ ([num1 (gU x 7)] ++ (flatK 1 (gU x 8).toL ((gU x 8).toL.length / 12) ++ (flatK 1 (gU x 9).toL ((gU x 9).toL.length / 12) ++ ([num1 (gU x 10)] ++ ([num1 (gU x 11)] ++ ([num1 (gU x 12)] ++ ([num1 (gU x 13)] ++ ([num1 (gU x 14)] ++ ([num1 (gU x 15)] ++ ([num1 (gU x 16)] ++ ([num1 (gU x 17)] ++ ([num1 (gU x 18)] ++ ([num1 (gU x 19)] ++ ([num1 (gU x 20)] ++ ([num1 (gU x 21)] ++ (flatK 1 (gU x 22).toL ((gU x 22).toL.length / 12) ++ (flatK 1 (gU x 23).toL ((gU x 23).toL.length / 12) ++ ([num1 (gU x 24)] ++ ([num1 (gU x 25)] ++ ([num1 (gU x 26)] ++ ([num1 (gU x 27)] ++ ([num1 (gU x 28)] ++ (flatK 1 (gU x 29).toL ((gU x 29).toL.length / 12) ++ (flatK 2 (gU x 30).toL ((gU x 30).toL.length / 5) ++ (flatK 2 (gU x 31).toL ((gU x 31).toL.length / 5) ++ (flatK 4 (gU x 32).toL ((gU x 32).toL.length / 1) ++ ([]))))))))))))))))))))))))))))))))) := rfl
theorem viewB33 (x : List U) : viewB 0 33 x = (false || (false || (false || (false || (false || (false || (false || (false || (sizeK 1 (gU x 8).toL ((gU x 8).toL.length / 12) || (sizeK 1 (gU x 9).toL ((gU x 9).toL.length / 12) || (false || (false || (false || (false || (false || (false || (false || (false || (false || (false || (false || (false || (sizeK 1 (gU x 22).toL ((gU x 22).toL.length / 12) || (sizeK 1 (gU x 23).toL ((gU x 23).toL.length / 12) || (false || (false || (false || (false || (false || (sizeK 1 (gU x 29).toL ((gU x 29).toL.length / 12) || (sizeK 2 (gU x 30).toL ((gU x 30).toL.length / 5) || (sizeK 2 (gU x 31).toL ((gU x 31).toL.length / 5) || (sizeK 4 (gU x 32).toL ((gU x 32).toL.length / 1) || (false)))))))))))))))))))))))))))))))))) := rfl
theorem viewF42 (x : List U) : viewF 0 42 x = viewF 0 33 x ++ (flatK 5 (gU x 33).toL ((gU x 33).toL.length / 2) ++ [num1 (gU x 34), num1 (gU x 35), num1 (gU x 36), num1 (gU x 37), num1 (gU x 38), num1 (gU x 39), num1 (gU x 40), num1 (gU x 41)]) := by
  rw [show viewF 0 42 x = [num1 (gU x 0)] ++ ([num1 (gU x 1)] ++ ([num1 (gU x 2)] ++ ([num1 (gU x 3)] ++ ([num1 (gU x 4)] ++ ([num1 (gU x 5)] ++ ([num1 (gU x 6)] ++ ([num1 (gU x 7)] ++ (flatK 1 (gU x 8).toL ((gU x 8).toL.length / 12) ++ (flatK 1 (gU x 9).toL ((gU x 9).toL.length / 12) ++ ([num1 (gU x 10)] ++ ([num1 (gU x 11)] ++ ([num1 (gU x 12)] ++ ([num1 (gU x 13)] ++ ([num1 (gU x 14)] ++ ([num1 (gU x 15)] ++ ([num1 (gU x 16)] ++ ([num1 (gU x 17)] ++ ([num1 (gU x 18)] ++ ([num1 (gU x 19)] ++ ([num1 (gU x 20)] ++ ([num1 (gU x 21)] ++ (flatK 1 (gU x 22).toL ((gU x 22).toL.length / 12) ++ (flatK 1 (gU x 23).toL ((gU x 23).toL.length / 12) ++ ([num1 (gU x 24)] ++ ([num1 (gU x 25)] ++ ([num1 (gU x 26)] ++ ([num1 (gU x 27)] ++ ([num1 (gU x 28)] ++ (flatK 1 (gU x 29).toL ((gU x 29).toL.length / 12) ++ (flatK 2 (gU x 30).toL ((gU x 30).toL.length / 5) ++ (flatK 2 (gU x 31).toL ((gU x 31).toL.length / 5) ++ (flatK 4 (gU x 32).toL ((gU x 32).toL.length / 1) ++ (flatK 5 (gU x 33).toL ((gU x 33).toL.length / 2) ++ ([num1 (gU x 34)] ++ ([num1 (gU x 35)] ++ ([num1 (gU x 36)] ++ ([num1 (gU x 37)] ++ ([num1 (gU x 38)] ++ ([num1 (gU x 39)] ++ ([num1 (gU x 40)] ++ ([num1 (gU x 41)] ++ ([])))))))))))))))))))))))))))))))))))))))))) from rfl, viewF33]
  simp only [List.append_assoc, List.nil_append, List.cons_append, List.append_nil]
theorem viewB42 (x : List U) : viewB 0 42 x = (viewB 0 33 x || sizeK 5 (gU x 33).toL ((gU x 33).toL.length / 2)) := by
  rw [show viewB 0 42 x = (false || (false || (false || (false || (false || (false || (false || (false || (sizeK 1 (gU x 8).toL ((gU x 8).toL.length / 12) || (sizeK 1 (gU x 9).toL ((gU x 9).toL.length / 12) || (false || (false || (false || (false || (false || (false || (false || (false || (false || (false || (false || (false || (sizeK 1 (gU x 22).toL ((gU x 22).toL.length / 12) || (sizeK 1 (gU x 23).toL ((gU x 23).toL.length / 12) || (false || (false || (false || (false || (false || (sizeK 1 (gU x 29).toL ((gU x 29).toL.length / 12) || (sizeK 2 (gU x 30).toL ((gU x 30).toL.length / 5) || (sizeK 2 (gU x 31).toL ((gU x 31).toL.length / 5) || (sizeK 4 (gU x 32).toL ((gU x 32).toL.length / 1) || (sizeK 5 (gU x 33).toL ((gU x 33).toL.length / 2) || (false || (false || (false || (false || (false || (false || (false || (false || (false))))))))))))))))))))))))))))))))))))))))))) from rfl, viewB33]
  simp only [Bool.or_assoc, Bool.false_or, Bool.or_false]
theorem viewF43 (x : List U) : viewF 0 43 x = viewF 0 42 x ++ flatK 6 (gU x 42).toL ((gU x 42).toL.length / 3) := by
  rw [show viewF 0 43 x = [num1 (gU x 0)] ++ ([num1 (gU x 1)] ++ ([num1 (gU x 2)] ++ ([num1 (gU x 3)] ++ ([num1 (gU x 4)] ++ ([num1 (gU x 5)] ++ ([num1 (gU x 6)] ++ ([num1 (gU x 7)] ++ (flatK 1 (gU x 8).toL ((gU x 8).toL.length / 12) ++ (flatK 1 (gU x 9).toL ((gU x 9).toL.length / 12) ++ ([num1 (gU x 10)] ++ ([num1 (gU x 11)] ++ ([num1 (gU x 12)] ++ ([num1 (gU x 13)] ++ ([num1 (gU x 14)] ++ ([num1 (gU x 15)] ++ ([num1 (gU x 16)] ++ ([num1 (gU x 17)] ++ ([num1 (gU x 18)] ++ ([num1 (gU x 19)] ++ ([num1 (gU x 20)] ++ ([num1 (gU x 21)] ++ (flatK 1 (gU x 22).toL ((gU x 22).toL.length / 12) ++ (flatK 1 (gU x 23).toL ((gU x 23).toL.length / 12) ++ ([num1 (gU x 24)] ++ ([num1 (gU x 25)] ++ ([num1 (gU x 26)] ++ ([num1 (gU x 27)] ++ ([num1 (gU x 28)] ++ (flatK 1 (gU x 29).toL ((gU x 29).toL.length / 12) ++ (flatK 2 (gU x 30).toL ((gU x 30).toL.length / 5) ++ (flatK 2 (gU x 31).toL ((gU x 31).toL.length / 5) ++ (flatK 4 (gU x 32).toL ((gU x 32).toL.length / 1) ++ (flatK 5 (gU x 33).toL ((gU x 33).toL.length / 2) ++ ([num1 (gU x 34)] ++ ([num1 (gU x 35)] ++ ([num1 (gU x 36)] ++ ([num1 (gU x 37)] ++ ([num1 (gU x 38)] ++ ([num1 (gU x 39)] ++ ([num1 (gU x 40)] ++ ([num1 (gU x 41)] ++ (flatK 6 (gU x 42).toL ((gU x 42).toL.length / 3) ++ ([]))))))))))))))))))))))))))))))))))))))))))) from rfl, show viewF 0 42 x = [num1 (gU x 0)] ++ ([num1 (gU x 1)] ++ ([num1 (gU x 2)] ++ ([num1 (gU x 3)] ++ ([num1 (gU x 4)] ++ ([num1 (gU x 5)] ++ ([num1 (gU x 6)] ++ ([num1 (gU x 7)] ++ (flatK 1 (gU x 8).toL ((gU x 8).toL.length / 12) ++ (flatK 1 (gU x 9).toL ((gU x 9).toL.length / 12) ++ ([num1 (gU x 10)] ++ ([num1 (gU x 11)] ++ ([num1 (gU x 12)] ++ ([num1 (gU x 13)] ++ ([num1 (gU x 14)] ++ ([num1 (gU x 15)] ++ ([num1 (gU x 16)] ++ ([num1 (gU x 17)] ++ ([num1 (gU x 18)] ++ ([num1 (gU x 19)] ++ ([num1 (gU x 20)] ++ ([num1 (gU x 21)] ++ (flatK 1 (gU x 22).toL ((gU x 22).toL.length / 12) ++ (flatK 1 (gU x 23).toL ((gU x 23).toL.length / 12) ++ ([num1 (gU x 24)] ++ ([num1 (gU x 25)] ++ ([num1 (gU x 26)] ++ ([num1 (gU x 27)] ++ ([num1 (gU x 28)] ++ (flatK 1 (gU x 29).toL ((gU x 29).toL.length / 12) ++ (flatK 2 (gU x 30).toL ((gU x 30).toL.length / 5) ++ (flatK 2 (gU x 31).toL ((gU x 31).toL.length / 5) ++ (flatK 4 (gU x 32).toL ((gU x 32).toL.length / 1) ++ (flatK 5 (gU x 33).toL ((gU x 33).toL.length / 2) ++ ([num1 (gU x 34)] ++ ([num1 (gU x 35)] ++ ([num1 (gU x 36)] ++ ([num1 (gU x 37)] ++ ([num1 (gU x 38)] ++ ([num1 (gU x 39)] ++ ([num1 (gU x 40)] ++ ([num1 (gU x 41)] ++ ([])))))))))))))))))))))))))))))))))))))))))) from rfl]
  simp only [List.append_assoc, List.nil_append, List.cons_append, List.append_nil]
theorem viewB43 (x : List U) : viewB 0 43 x = (viewB 0 42 x || sizeK 6 (gU x 42).toL ((gU x 42).toL.length / 3)) := by
  rw [show viewB 0 43 x = (false || (false || (false || (false || (false || (false || (false || (false || (sizeK 1 (gU x 8).toL ((gU x 8).toL.length / 12) || (sizeK 1 (gU x 9).toL ((gU x 9).toL.length / 12) || (false || (false || (false || (false || (false || (false || (false || (false || (false || (false || (false || (false || (sizeK 1 (gU x 22).toL ((gU x 22).toL.length / 12) || (sizeK 1 (gU x 23).toL ((gU x 23).toL.length / 12) || (false || (false || (false || (false || (false || (sizeK 1 (gU x 29).toL ((gU x 29).toL.length / 12) || (sizeK 2 (gU x 30).toL ((gU x 30).toL.length / 5) || (sizeK 2 (gU x 31).toL ((gU x 31).toL.length / 5) || (sizeK 4 (gU x 32).toL ((gU x 32).toL.length / 1) || (sizeK 5 (gU x 33).toL ((gU x 33).toL.length / 2) || (false || (false || (false || (false || (false || (false || (false || (false || (sizeK 6 (gU x 42).toL ((gU x 42).toL.length / 3) || (false)))))))))))))))))))))))))))))))))))))))))))) from rfl, show viewB 0 42 x = (false || (false || (false || (false || (false || (false || (false || (false || (sizeK 1 (gU x 8).toL ((gU x 8).toL.length / 12) || (sizeK 1 (gU x 9).toL ((gU x 9).toL.length / 12) || (false || (false || (false || (false || (false || (false || (false || (false || (false || (false || (false || (false || (sizeK 1 (gU x 22).toL ((gU x 22).toL.length / 12) || (sizeK 1 (gU x 23).toL ((gU x 23).toL.length / 12) || (false || (false || (false || (false || (false || (sizeK 1 (gU x 29).toL ((gU x 29).toL.length / 12) || (sizeK 2 (gU x 30).toL ((gU x 30).toL.length / 5) || (sizeK 2 (gU x 31).toL ((gU x 31).toL.length / 5) || (sizeK 4 (gU x 32).toL ((gU x 32).toL.length / 1) || (sizeK 5 (gU x 33).toL ((gU x 33).toL.length / 2) || (false || (false || (false || (false || (false || (false || (false || (false || (false))))))))))))))))))))))))))))))))))))))))))) from rfl]
  simp only [Bool.or_assoc, Bool.false_or, Bool.or_false]
section
variable {ρ : Env} {x y z l A X Y a b k u i j p q n m r o c d w v x' b' x1 b1 x2 b2 : E}
theorem v_get (h : E.B ρ (.fn 119 X) = true) {k : U} (j : Nat) (hj : (kindsU 5)[j]? = some k) : U.typ (gU (E.L ρ X) j) k = true := by
  have h' : (U.typs (E.L ρ X) (kindsU 5) [] && (E.L ρ X).length == 43) = true := h
  rw [Bool.and_eq_true, beq_iff_eq] at h'
  have hlt : j < 43 := (List.getElem?_eq_some_iff.1 hj).1
  obtain ⟨q, h1, h2⟩ := typ_get h'.1 (p := j) (by omega)
  rw [show (kindsU 5).length = 43 from rfl, Nat.mod_eq_of_lt hlt, hj] at h1
  simp only [Option.some.injEq] at h1
  subst h1; exact h2
theorem v3 (h : E.B ρ (.fn 119 X) = true) (j : Nat) (hj : (kindsU 5)[j]? = some (.int 3)) (he : a.den ρ = gU (E.L ρ X) j) : ∃ m, a.den ρ = .int m ∧ in64 m := by
  rw [he]; exact typ3 (v_get h j hj)
theorem v3I (h : E.B ρ (.fn 119 X) = true) (j : Nat) (hj : (kindsU 5)[j]? = some (.int 3)) (he : a.den ρ = gU (E.L ρ X) j) : E.I ρ a = num1 (gU (E.L ρ X) j) := by
  obtain ⟨m, h1, _⟩ := v3 h j hj he
  rw [← he]; show (a.den ρ).toI = _
  rw [h1]; rfl
theorem v8 (h : E.B ρ (.fn 119 X) = true) (j : Nat) (hj : (kindsU 5)[j]? = some (.int 8)) : flag1 (gU (E.L ρ X) j) = num1 (gU (E.L ρ X) j) := by
  obtain ⟨b, hb⟩ := typ8 (v_get h j hj)
  rw [hb]; rfl
theorem v8I (h : E.B ρ (.fn 119 X) = true) (j : Nat) (hj : (kindsU 5)[j]? = some (.int 8)) (he : a.den ρ = gU (E.L ρ X) j) (hb : E.I ρ b = E.I ρ (.fn 116 a)) : E.I ρ b = num1 (gU (E.L ρ X) j) := by
  rw [hb, z116, he, v8 h j hj]
theorem vl (h : E.B ρ (.fn 119 X) = true) (j : Nat) {ks : List U} (hj : (kindsU 5)[j]? = some (.lst ks)) : U.typs (gU (E.L ρ X) j).toL ks [] = true := (typL (v_get h j hj)).2
theorem v_size (j : Nat) (he : a.den ρ = gU (E.L ρ X) j) : E.I ρ (.fn 117 a) ≤ E.I ρ (.fn 117 X) := by
  rw [z117, z117, he]
  have : U.size (gU (E.L ρ X) j) ≤ U.size (X.den ρ) := size_cell (X.den ρ) j
  omega
theorem tg_size : E.I ρ (.fn 114 (.pr l i)) ≤ E.I ρ (.fn 117 l) := by
  rw [z114, z117]
  have h1 := tgts_size ((E.L ρ l).take ((E.I ρ i).toNat * 5))
  have h2 := sizes_take (E.L ρ l) ((E.I ρ i).toNat * 5)
  have h3 : U.sizes (E.L ρ l) ≤ U.size (l.den ρ) := size_toL (l.den ρ)
  omega
/-! the flat lists -/
theorem t109_head1 : E.B ρ (.fn 109 (.pr (.fn 23 (.pr (.fn 9 (.pr l (.int 12))) (.fn 10 (.int 0)))) (.pr (.int 1) (.pr l (.int 0))))) = true := by
  rw [z109]
  show [E.I ρ _] = _ :: ((E.L ρ l).take (0 * 12)).map num1
  rw [rows_I, Nat.zero_mul, List.take_zero]; rfl
theorem t109_head2 : E.B ρ (.fn 109 (.pr (.fn 23 (.pr (.fn 9 (.pr l (.int 5))) (.fn 10 (.int 0)))) (.pr (.int 2) (.pr l (.int 0))))) = true := by
  rw [z109]
  show [E.I ρ _] = _ :: ((E.L ρ l).take (0 * 5)).flatMap tgt1
  rw [rows_I, Nat.zero_mul, List.take_zero]; rfl
theorem t109_eq (h : E.B ρ (.fn 109 (.pr y (.pr k (.pr l i)))) = true) (hi : E.I ρ j = E.I ρ i) : E.B ρ (.fn 109 (.pr y (.pr k (.pr l j)))) = true := by
  rw [z109] at h ⊢; rw [hi]; exact h
theorem t109_obj (ht : E.B ρ (.fn 118 (.pr (.int 1) l)) = true) (h : E.B ρ (.fn 109 (.pr y (.pr (.int 1) (.pr l i)))) = true) (ha : E.I ρ a = E.I ρ (.fn 116 (cE l i 12 9))) (hb : E.I ρ b = E.I ρ (.fn 116 (cE l i 12 10))) (hc : E.I ρ c = E.I ρ (.fn 116 (cE l i 12 11)))
    (hi : 0 ≤ E.I ρ i) (hl : E.I ρ i < E.I ρ (.fn 9 (.pr l (.int 12)))) (hj : E.I ρ j = E.I ρ i + 1) : E.B ρ (.fn 109 (.pr (.fn 3 (.pr y (.fn 23 (.pr (cE l i 12 0) (.fn 23 (.pr (cE l i 12 1) (.fn 23 (.pr (cE l i 12 2) (.fn 23 (.pr (cE l i 12 3) (.fn 23 (.pr (cE l i 12 4) (.fn 23 (.pr (cE l i 12 5) (.fn 23 (.pr (cE l i 12 6) (.fn 23 (.pr (cE l i 12 7) (.fn 23 (.pr (cE l i 12 8) (.fn 23 (.pr a (.fn 23 (.pr b (.fn 23 (.pr c (.fn 10 (.int 0)))))))))))))))))))))))))))) (.pr (.int 1) (.pr l j)))) = true := by
  have hlen : ((E.I ρ i).toNat + 1) * 12 ≤ (E.L ρ l).length := row_lt hi hl
  have d0 : (cE l i 12 0).den ρ = gU (E.L ρ l) ((E.I ρ i).toNat * 12 + 0) := cE_den (w := 12) (j := 0) hi
  have d1 : (cE l i 12 1).den ρ = gU (E.L ρ l) ((E.I ρ i).toNat * 12 + 1) := cE_den (w := 12) (j := 1) hi
  have d2 : (cE l i 12 2).den ρ = gU (E.L ρ l) ((E.I ρ i).toNat * 12 + 2) := cE_den (w := 12) (j := 2) hi
  have d3 : (cE l i 12 3).den ρ = gU (E.L ρ l) ((E.I ρ i).toNat * 12 + 3) := cE_den (w := 12) (j := 3) hi
  have d4 : (cE l i 12 4).den ρ = gU (E.L ρ l) ((E.I ρ i).toNat * 12 + 4) := cE_den (w := 12) (j := 4) hi
  have d5 : (cE l i 12 5).den ρ = gU (E.L ρ l) ((E.I ρ i).toNat * 12 + 5) := cE_den (w := 12) (j := 5) hi
  have d6 : (cE l i 12 6).den ρ = gU (E.L ρ l) ((E.I ρ i).toNat * 12 + 6) := cE_den (w := 12) (j := 6) hi
  have d7 : (cE l i 12 7).den ρ = gU (E.L ρ l) ((E.I ρ i).toNat * 12 + 7) := cE_den (w := 12) (j := 7) hi
  have d8 : (cE l i 12 8).den ρ = gU (E.L ρ l) ((E.I ρ i).toNat * 12 + 8) := cE_den (w := 12) (j := 8) hi
  have d9 : (cE l i 12 9).den ρ = gU (E.L ρ l) ((E.I ρ i).toNat * 12 + 9) := cE_den (w := 12) (j := 9) hi
  have d10 : (cE l i 12 10).den ρ = gU (E.L ρ l) ((E.I ρ i).toNat * 12 + 10) := cE_den (w := 12) (j := 10) hi
  have d11 : (cE l i 12 11).den ρ = gU (E.L ρ l) ((E.I ρ i).toNat * 12 + 11) := cE_den (w := 12) (j := 11) hi
  have n0 : E.I ρ (cE l i 12 0) = num1 (gU (E.L ρ l) ((E.I ρ i).toNat * 12 + 0)) := by
    obtain ⟨m, hm, _⟩ := (ty1 ht (i := (E.I ρ i).toNat) (j := 0) (by omega) (by omega)).1 (by omega)
    show ((cE l i 12 0).den ρ).toI = _
    rw [d0, hm]; rfl
  have n1 : E.I ρ (cE l i 12 1) = num1 (gU (E.L ρ l) ((E.I ρ i).toNat * 12 + 1)) := by
    obtain ⟨m, hm, _⟩ := (ty1 ht (i := (E.I ρ i).toNat) (j := 1) (by omega) (by omega)).1 (by omega)
    show ((cE l i 12 1).den ρ).toI = _
    rw [d1, hm]; rfl
  have n2 : E.I ρ (cE l i 12 2) = num1 (gU (E.L ρ l) ((E.I ρ i).toNat * 12 + 2)) := by
    obtain ⟨m, hm, _⟩ := (ty1 ht (i := (E.I ρ i).toNat) (j := 2) (by omega) (by omega)).1 (by omega)
    show ((cE l i 12 2).den ρ).toI = _
    rw [d2, hm]; rfl
  have n3 : E.I ρ (cE l i 12 3) = num1 (gU (E.L ρ l) ((E.I ρ i).toNat * 12 + 3)) := by
    obtain ⟨m, hm, _⟩ := (ty1 ht (i := (E.I ρ i).toNat) (j := 3) (by omega) (by omega)).1 (by omega)
    show ((cE l i 12 3).den ρ).toI = _
    rw [d3, hm]; rfl
  have n4 : E.I ρ (cE l i 12 4) = num1 (gU (E.L ρ l) ((E.I ρ i).toNat * 12 + 4)) := by
    obtain ⟨m, hm, _⟩ := (ty1 ht (i := (E.I ρ i).toNat) (j := 4) (by omega) (by omega)).1 (by omega)
    show ((cE l i 12 4).den ρ).toI = _
    rw [d4, hm]; rfl
  have n5 : E.I ρ (cE l i 12 5) = num1 (gU (E.L ρ l) ((E.I ρ i).toNat * 12 + 5)) := by
    obtain ⟨m, hm, _⟩ := (ty1 ht (i := (E.I ρ i).toNat) (j := 5) (by omega) (by omega)).1 (by omega)
    show ((cE l i 12 5).den ρ).toI = _
    rw [d5, hm]; rfl
  have n6 : E.I ρ (cE l i 12 6) = num1 (gU (E.L ρ l) ((E.I ρ i).toNat * 12 + 6)) := by
    obtain ⟨m, hm, _⟩ := (ty1 ht (i := (E.I ρ i).toNat) (j := 6) (by omega) (by omega)).1 (by omega)
    show ((cE l i 12 6).den ρ).toI = _
    rw [d6, hm]; rfl
  have n7 : E.I ρ (cE l i 12 7) = num1 (gU (E.L ρ l) ((E.I ρ i).toNat * 12 + 7)) := by
    obtain ⟨m, hm, _⟩ := (ty1 ht (i := (E.I ρ i).toNat) (j := 7) (by omega) (by omega)).1 (by omega)
    show ((cE l i 12 7).den ρ).toI = _
    rw [d7, hm]; rfl
  have n8 : E.I ρ (cE l i 12 8) = num1 (gU (E.L ρ l) ((E.I ρ i).toNat * 12 + 8)) := by
    obtain ⟨m, hm, _⟩ := (ty1 ht (i := (E.I ρ i).toNat) (j := 8) (by omega) (by omega)).1 (by omega)
    show ((cE l i 12 8).den ρ).toI = _
    rw [d8, hm]; rfl
  rw [z109] at h ⊢
  rw [show (E.I ρ j).toNat = (E.I ρ i).toNat + 1 by omega]
  show _ = flatK 1 (E.L ρ l) ((E.I ρ i).toNat + 1)
  rw [objs_step hlen (fun q hq hq' => by
      obtain ⟨bb, hb⟩ := (ty1 ht (i := (E.I ρ i).toNat) (j := q) hq' (by omega)).2 hq
      rw [hb]; rfl), ints_app, h]
  simp only [ints_cons, ints_nil, n0, n1, n2, n3, n4, n5, n6, n7, n8, ha, hb, hc, z116, d9, d10, d11]
  rfl
theorem t113_start (ht : E.B ρ (.fn 118 (.pr (.int 2) l)) = true) (h : E.B ρ (.fn 109 (.pr y (.pr (.int 2) (.pr l i)))) = true) (hi : 0 ≤ E.I ρ i) (hl : E.I ρ i < E.I ρ (.fn 9 (.pr l (.int 5)))) :
    E.B ρ (.fn 113 (.pr (.fn 3 (.pr y (.fn 23 (.pr (cE l i 5 0) (.fn 23 (.pr (cE l i 5 1) (.fn 23 (.pr (cE l i 5 2) (.fn 23 (.pr (cE l i 5 3) (.fn 23 (.pr (.fn 9 (.pr (cE l i 5 4) (.int 2))) (.fn 10 (.int 0)))))))))))))) (.pr l (.pr i (.int 0))))) = true := by
  have hlen : ((E.I ρ i).toNat + 1) * 5 ≤ (E.L ρ l).length := row_lt hi hl
  have d0 : (cE l i 5 0).den ρ = gU (E.L ρ l) ((E.I ρ i).toNat * 5 + 0) := cE_den (w := 5) (j := 0) hi
  have d1 : (cE l i 5 1).den ρ = gU (E.L ρ l) ((E.I ρ i).toNat * 5 + 1) := cE_den (w := 5) (j := 1) hi
  have d2 : (cE l i 5 2).den ρ = gU (E.L ρ l) ((E.I ρ i).toNat * 5 + 2) := cE_den (w := 5) (j := 2) hi
  have d3 : (cE l i 5 3).den ρ = gU (E.L ρ l) ((E.I ρ i).toNat * 5 + 3) := cE_den (w := 5) (j := 3) hi
  have d4 : (cE l i 5 4).den ρ = gU (E.L ρ l) ((E.I ρ i).toNat * 5 + 4) := cE_den (w := 5) (j := 4) hi
  have hT := ty2' ht hi hl
  have n0 : E.I ρ (cE l i 5 0) = num1 (gU (E.L ρ l) ((E.I ρ i).toNat * 5 + 0)) := by
    obtain ⟨m, hm, _⟩ := hT.1 0 (by omega)
    show ((cE l i 5 0).den ρ).toI = _
    rw [d0, hm]; rfl
  have n1 : E.I ρ (cE l i 5 1) = num1 (gU (E.L ρ l) ((E.I ρ i).toNat * 5 + 1)) := by
    obtain ⟨m, hm, _⟩ := hT.1 1 (by omega)
    show ((cE l i 5 1).den ρ).toI = _
    rw [d1, hm]; rfl
  have n2 : E.I ρ (cE l i 5 2) = num1 (gU (E.L ρ l) ((E.I ρ i).toNat * 5 + 2)) := by
    obtain ⟨m, hm, _⟩ := hT.1 2 (by omega)
    show ((cE l i 5 2).den ρ).toI = _
    rw [d2, hm]; rfl
  have n3 : E.I ρ (cE l i 5 3) = num1 (gU (E.L ρ l) ((E.I ρ i).toNat * 5 + 3)) := by
    obtain ⟨m, hm, _⟩ := hT.1 3 (by omega)
    show ((cE l i 5 3).den ρ).toI = _
    rw [d3, hm]; rfl
  have hL : E.L ρ (cE l i 5 4) = (gU (E.L ρ l) ((E.I ρ i).toNat * 5 + 4)).toL := by show ((cE l i 5 4).den ρ).toL = _; rw [d4]
  rw [z109] at h; rw [z113]
  show _ = itemF (E.L ρ l) (E.I ρ i).toNat 0
  rw [items_head hlen, ints_app, h]
  simp only [ints_cons, ints_nil, n0, n1, n2, n3, rows_I, hL]
  rfl
theorem t113_step (ht : E.B ρ (.fn 118 (.pr (.int 2) l)) = true) (h : E.B ρ (.fn 113 (.pr y (.pr l (.pr i k)))) = true) (hi : 0 ≤ E.I ρ i) (hl : E.I ρ i < E.I ρ (.fn 9 (.pr l (.int 5)))) (hk : 0 ≤ E.I ρ k) (hkl : E.I ρ k < E.I ρ (.fn 9 (.pr (cE l i 5 4) (.int 2)))) (hj : E.I ρ j = E.I ρ k + 1) :
    E.B ρ (.fn 113 (.pr (.fn 3 (.pr y (.fn 23 (.pr (cE (cE l i 5 4) k 2 0) (.fn 23 (.pr (cE (cE l i 5 4) k 2 1) (.fn 10 (.int 0)))))))) (.pr l (.pr i j)))) = true := by
  have d4 : (cE l i 5 4).den ρ = gU (E.L ρ l) ((E.I ρ i).toNat * 5 + 4) := cE_den (w := 5) (j := 4) hi
  have hL : E.L ρ (cE l i 5 4) = (gU (E.L ρ l) ((E.I ρ i).toNat * 5 + 4)).toL := by show ((cE l i 5 4).den ρ).toL = _; rw [d4]
  have hlen : ((E.I ρ k).toNat + 1) * 2 ≤ (E.L ρ (cE l i 5 4)).length := row_lt hk hkl
  have h3 := (ty2' ht hi hl).2.2
  have g : ∀ j : Nat, j < 2 → E.I ρ (cE (cE l i 5 4) k 2 (j : Int)) = num1 (gU (E.L ρ (cE l i 5 4)) ((E.I ρ k).toNat * 2 + j)) := fun j hj => by
    have e : (cE (cE l i 5 4) k 2 (j : Int)).den ρ = gU (E.L ρ (cE l i 5 4)) ((E.I ρ k).toNat * 2 + j) := cE_den (w := 2) (j := j) hk
    show ((cE (cE l i 5 4) k 2 (j : Int)).den ρ).toI = _
    rw [e]
    rw [hL] at hlen ⊢
    obtain ⟨kk, h1, h2⟩ := typ_get h3 (p := (E.I ρ k).toNat * 2 + j) (by omega)
    simp only [kindsU, List.length_cons, List.length_nil, Nat.zero_add, Nat.reduceAdd, mod_row hj] at h1
    have h2' : U.typ (gU (gU (E.L ρ l) ((E.I ρ i).toNat * 5 + 4)).toL ((E.I ρ k).toNat * 2 + j)) (.int 3) = true := by
      rcases (show j = 0 ∨ j = 1 by omega) with rfl | rfl <;> simp only [List.getElem?_cons_succ, List.getElem?_cons_zero, Option.some.injEq] at h1 <;> subst h1 <;> exact h2
    obtain ⟨m, hm, _⟩ := typ3 h2'
    rw [hm]; rfl
  have n0 : E.I ρ (cE (cE l i 5 4) k 2 0) = num1 (gU (E.L ρ (cE l i 5 4)) ((E.I ρ k).toNat * 2 + 0)) := g 0 (by omega)
  have n1 : E.I ρ (cE (cE l i 5 4) k 2 1) = num1 (gU (E.L ρ (cE l i 5 4)) ((E.I ρ k).toNat * 2 + 1)) := g 1 (by omega)
  rw [z113] at h ⊢
  rw [hL] at hlen n0 n1
  rw [show (E.I ρ j).toNat = (E.I ρ k).toNat + 1 by omega, items_tgt hlen, ints_app, h]
  simp only [ints_cons, ints_nil, n0, n1]
  rfl
theorem t113_end (ht : E.B ρ (.fn 118 (.pr (.int 2) l)) = true) (h0 : E.B ρ (.fn 113 (.pr y (.pr l (.pr i k)))) = true)
    (hi : 0 ≤ E.I ρ i) (hl : E.I ρ i < E.I ρ (.fn 9 (.pr l (.int 5)))) (hk : E.I ρ k = E.I ρ (.fn 9 (.pr (cE l i 5 4) (.int 2)))) (hj : E.I ρ j = E.I ρ i + 1) : E.B ρ (.fn 109 (.pr y (.pr (.int 2) (.pr l j)))) = true := by
  have hlen : ((E.I ρ i).toNat + 1) * 5 ≤ (E.L ρ l).length := row_lt hi hl
  have d4 : (cE l i 5 4).den ρ = gU (E.L ρ l) ((E.I ρ i).toNat * 5 + 4) := cE_den (w := 5) (j := 4) hi
  have hL : E.L ρ (cE l i 5 4) = (gU (E.L ρ l) ((E.I ρ i).toNat * 5 + 4)).toL := by show ((cE l i 5 4).den ρ).toL = _; rw [d4]
  have hT := ty2' ht hi hl
  rw [z113] at h0; rw [z109, h0]
  show _ = flatK 2 (E.L ρ l) (E.I ρ j).toNat
  rw [show (E.I ρ j).toNat = (E.I ρ i).toNat + 1 by omega]
  exact items_end hlen (by rw [hk, rows_I, hL]; rfl) (fun q hq => by obtain ⟨m, hm, _⟩ := hT.1 q hq; rw [hm]; rfl) hT.2.1
theorem ints_nums (h : E.B ρ (.fn 118 (.pr (.int 0) l)) = true) : ints ρ l = nums ρ l := by
  unfold ints nums
  apply List.map_congr_left
  intro u hu
  obtain ⟨p, hp, hpu⟩ := List.getElem_of_mem hu
  obtain ⟨m, hm, hm2⟩ := ty0 h hp
  rw [gU, List.getD_eq_getElem?_getD, List.getElem?_eq_getElem hp] at hm
  have : u = .int m := by rw [← hpu]; exact hm
  rw [this]; rfl
theorem t109_ints (h : E.B ρ (.fn 118 (.pr (.int 0) l)) = true) : E.B ρ (.fn 109 (.pr (.fn 3 (.pr (.fn 23 (.pr (.fn 0 l) (.fn 10 a))) l)) (.pr (.int 4) (.pr l (.fn 0 l))))) = true := by
  rw [z109, ints_app, ints_cons, ints_nil, ints_nums h]
  show [E.I ρ (.fn 0 l)] ++ nums ρ l = (((E.L ρ l).length : Nat) : Int) :: ((E.L ρ l).take ((E.I ρ (.fn 0 l)).toNat)).map num1
  rw [← L_len, Int.toNat_natCast, List.take_length]; rfl
/-! two views -/
theorem s_full (h1 : E.B ρ (.fn 106 (.pr y X)) = true) (h2 : E.B ρ (.fn 106 (.pr z Y)) = true) (h : E.B ρ (.fn 111 (.pr y (.pr z i))) = true) (hi : E.I ρ (.fn 0 y) ≤ E.I ρ i) (hj : E.I ρ (.fn 0 z) ≤ E.I ρ i) : E.B ρ (.fn 105 (.pr X Y)) = true := by
  rw [z106] at h1 h2; rw [z111] at h; rw [z105, ← h1, ← h2]
  have a1 := ints_len (ρ := ρ) (l := y)
  have a2 := ints_len (ρ := ρ) (l := z)
  rwa [List.take_of_length_le (by omega), List.take_of_length_le (by omega)] at h
theorem s_len (h1 : E.B ρ (.fn 106 (.pr y X)) = true) (h2 : E.B ρ (.fn 106 (.pr z Y)) = true) (hn : E.I ρ (.fn 0 y) ≠ E.I ρ (.fn 0 z)) : ¬ E.B ρ (.fn 105 (.pr X Y)) = true := by
  rw [z106] at h1 h2; rw [z105, ← h1, ← h2]
  intro h
  have a1 := ints_len (ρ := ρ) (l := y)
  have a2 := ints_len (ρ := ρ) (l := z)
  rw [h] at a1; omega
theorem I_nth' : E.I ρ (.fn 1 (.pr l i)) = (ints ρ l).getD (E.I ρ i).toNat 0 := by
  rw [I_nth, ints, gU, List.getD_eq_getElem?_getD, List.getD_eq_getElem?_getD, List.getElem?_map]
  cases (E.L ρ l)[(E.I ρ i).toNat]? <;> rfl
theorem s_diff (h1 : E.B ρ (.fn 106 (.pr y X)) = true) (h2 : E.B ρ (.fn 106 (.pr z Y)) = true) (hn : E.I ρ (.fn 1 (.pr y i)) ≠ E.I ρ (.fn 1 (.pr z i))) : ¬ E.B ρ (.fn 105 (.pr X Y)) = true := by
  rw [z106] at h1 h2; rw [z105, ← h1, ← h2]
  intro h
  rw [I_nth', I_nth', h] at hn
  exact hn rfl
theorem s_step (h : E.B ρ (.fn 111 (.pr y (.pr z i))) = true) (hi : 0 ≤ E.I ρ i) (hy : E.I ρ i < E.I ρ (.fn 0 y)) (hz : E.I ρ i < E.I ρ (.fn 0 z)) (he : E.I ρ (.fn 1 (.pr y i)) = E.I ρ (.fn 1 (.pr z i))) (hj : E.I ρ j = E.I ρ i + 1) : E.B ρ (.fn 111 (.pr y (.pr z j))) = true := by
  rw [z111] at h ⊢
  have a1 := ints_len (ρ := ρ) (l := y)
  have a2 := ints_len (ρ := ρ) (l := z)
  rw [show (E.I ρ j).toNat = (E.I ρ i).toNat + 1 by omega, take_succ' (by omega), take_succ' (by omega), h, ← I_nth', ← I_nth', he]
theorem s_zero (h : E.I ρ i ≤ 0) : E.B ρ (.fn 111 (.pr y (.pr z i))) = true := by
  rw [z111, show (E.I ρ i).toNat = 0 by omega]; rfl
theorem t105_self : E.B ρ (.fn 105 (.pr X X)) = true := by rw [z105]
theorem t_equal (h1 : E.B ρ (.fn 104 (.pr x1 (.pr b1 (.pr X (.int 43))))) = true) (h2 : E.B ρ (.fn 104 (.pr x2 (.pr b2 (.pr Y (.int 43))))) = true) : E.B ρ (.iff (.seq (.fn 41 x1) (.fn 41 x2)) (.fn 105 (.pr X Y))) = true := by
  rw [z104] at h1 h2
  have g1 : ints ρ x1 = encs (viewF 0 43 (E.L ρ X)) := h1.1
  have g2 : ints ρ x2 = encs (viewF 0 43 (E.L ρ Y)) := h2.1
  rw [sm_B_iff, sm_B_seq, z105, eqS_iff]
  have e : ∀ q : E, E.S ρ (.fn 41 q) = ⟨((ints ρ q).map fun n => UInt8.ofNat n.toNat).toArray⟩ := fun q => by
    show (⟨((E.L ρ q).map fun u => UInt8.ofNat u.toI.toNat).toArray⟩ : ByteArray) = _
    rw [ints, List.map_map]; rfl
  rw [e, e, g1, g2]
  constructor
  · intro h
    have h' := congrArg (fun s => s.data.toList) h
    simp only at h'
    exact encs_inj _ _ (bytes_inj _ _ (encs_bytes _) (encs_bytes _) h')
  · intro h; rw [h]
theorem z112 : (E.B ρ (.fn 112 X) = true) = (lightV (E.L ρ X) = true) := rfl
theorem z112' : (E.B ρ (.fn 112 X) = true) = (E.I ρ (.fn 9 (.pr (.fn 1 (.pr X (.int 8))) (.int 12))) ≤ 60 ∧ E.I ρ (.fn 9 (.pr (.fn 1 (.pr X (.int 9))) (.int 12))) ≤ 60 ∧ E.I ρ (.fn 9 (.pr (.fn 1 (.pr X (.int 22))) (.int 12))) ≤ 60 ∧ E.I ρ (.fn 9 (.pr (.fn 1 (.pr X (.int 23))) (.int 12))) ≤ 60 ∧ E.I ρ (.fn 9 (.pr (.fn 1 (.pr X (.int 29))) (.int 12))) ≤ 60 ∧ E.I ρ (.fn 9 (.pr (.fn 1 (.pr X (.int 30))) (.int 5))) ≤ 60 ∧ E.I ρ (.fn 9 (.pr (.fn 1 (.pr X (.int 31))) (.int 5))) ≤ 60 ∧ E.I ρ (.fn 0 (.fn 1 (.pr X (.int 32)))) ≤ 60 ∧ E.I ρ (.fn 9 (.pr (.fn 1 (.pr X (.int 33))) (.int 2))) ≤ 60 ∧ E.I ρ (.fn 9 (.pr (.fn 1 (.pr X (.int 42))) (.int 3))) ≤ 60 ∧ E.I ρ (.fn 114 (.pr (.fn 1 (.pr X (.int 30))) (.fn 9 (.pr (.fn 1 (.pr X (.int 30))) (.int 5))))) ≤ 200 ∧ E.I ρ (.fn 114 (.pr (.fn 1 (.pr X (.int 31))) (.fn 9 (.pr (.fn 1 (.pr X (.int 31))) (.int 5))))) ≤ 200) := by
  apply propext
  have e8 : E.I ρ (.fn 9 (.pr (.fn 1 (.pr X (.int 8))) (.int 12))) = (((gU (E.L ρ X) 8).toL.length / 12 : Nat) : Int) := rfl
  have e9 : E.I ρ (.fn 9 (.pr (.fn 1 (.pr X (.int 9))) (.int 12))) = (((gU (E.L ρ X) 9).toL.length / 12 : Nat) : Int) := rfl
  have e22 : E.I ρ (.fn 9 (.pr (.fn 1 (.pr X (.int 22))) (.int 12))) = (((gU (E.L ρ X) 22).toL.length / 12 : Nat) : Int) := rfl
  have e23 : E.I ρ (.fn 9 (.pr (.fn 1 (.pr X (.int 23))) (.int 12))) = (((gU (E.L ρ X) 23).toL.length / 12 : Nat) : Int) := rfl
  have e29 : E.I ρ (.fn 9 (.pr (.fn 1 (.pr X (.int 29))) (.int 12))) = (((gU (E.L ρ X) 29).toL.length / 12 : Nat) : Int) := rfl
  have e30 : E.I ρ (.fn 9 (.pr (.fn 1 (.pr X (.int 30))) (.int 5))) = (((gU (E.L ρ X) 30).toL.length / 5 : Nat) : Int) := rfl
  have e31 : E.I ρ (.fn 9 (.pr (.fn 1 (.pr X (.int 31))) (.int 5))) = (((gU (E.L ρ X) 31).toL.length / 5 : Nat) : Int) := rfl
  have e32 : E.I ρ (.fn 0 (.fn 1 (.pr X (.int 32)))) = (((gU (E.L ρ X) 32).toL.length : Nat) : Int) := rfl
  have e33 : E.I ρ (.fn 9 (.pr (.fn 1 (.pr X (.int 33))) (.int 2))) = (((gU (E.L ρ X) 33).toL.length / 2 : Nat) : Int) := rfl
  have e42 : E.I ρ (.fn 9 (.pr (.fn 1 (.pr X (.int 42))) (.int 3))) = (((gU (E.L ρ X) 42).toL.length / 3 : Nat) : Int) := rfl
  have t30 : E.I ρ (.fn 114 (.pr (.fn 1 (.pr X (.int 30))) (.fn 9 (.pr (.fn 1 (.pr X (.int 30))) (.int 5))))) = ((tgtsN ((gU (E.L ρ X) 30).toL.take ((gU (E.L ρ X) 30).toL.length / 5 * 5)) : Nat) : Int) := rfl
  have t31 : E.I ρ (.fn 114 (.pr (.fn 1 (.pr X (.int 31))) (.fn 9 (.pr (.fn 1 (.pr X (.int 31))) (.int 5))))) = ((tgtsN ((gU (E.L ρ X) 31).toL.take ((gU (E.L ρ X) 31).toL.length / 5 * 5)) : Nat) : Int) := rfl
  rw [z112, e8, e9, e22, e23, e29, e30, e31, e32, e33, e42, t30, t31]
  unfold lightV
  simp only [Bool.and_eq_true, decide_eq_true_eq, gU]
  omega
theorem lt_mx (n a b : Int) : (n < max a b) = (n < a ∨ n < b) := by apply propext; omega
theorem rows_size {w : Int} : E.I ρ (.fn 9 (.pr l (.int w))) ≤ E.I ρ (.fn 117 l) := by
  rw [rows_I, z117]
  have h1 := sizes_len (E.L ρ l)
  have h2 : U.sizes (E.L ρ l) ≤ U.size (l.den ρ) := size_toL (l.den ρ)
  have h3 := Nat.div_le_self (E.L ρ l).length w.toNat
  have h4 : (E.L ρ l).length / w.toNat ≤ U.size (l.den ρ) := by omega
  exact Int.ofNat_le.2 h4
theorem flag_I (h : E.B ρ a = true) : E.B ρ (.cmp .eql (.fn 116 a) (.int 1)) = true := by
  have h' : (a.den ρ).toB = true := h
  rw [sm_B_eql, z116]; unfold flag1; rw [h']; rfl
theorem flag_O (h : ¬ E.B ρ a = true) : E.B ρ (.cmp .eql (.fn 116 a) (.int 0)) = true := by
  have h' : (a.den ρ).toB = false := by rw [← Bool.not_eq_true]; exact h
  rw [sm_B_eql, z116]; unfold flag1; rw [h']; rfl
end
-- VIEWS
section
variable {ρ : Env} {x y z l A X Y a b k u i j p q n m r o c d w v x' b' : E}
theorem len_I : E.I ρ (.fn 0 l) = (((E.L ρ l).length : Nat) : Int) := rfl
theorem zig_lo {m : Int} (h : in64 m) (hz : E.I ρ v = (zig m : Int)) : ¬ E.I ρ v < E.I ρ (.int 0) := by
  have := zig_rng h hz
  rw [sm_I_int]; omega
theorem zig_hi {m : Int} (h : in64 m) (hz : E.I ρ v = (zig m : Int)) : ¬ E.I ρ (.int 18446744073709551615) < E.I ρ v := by
  have := zig_rng h hz
  rw [sm_I_int]; omega
theorem decR {w : Int} : decide (E.I ρ (.int 1000) < E.I ρ (.fn 9 (.pr l (.int w)))) = decide (1000 < (E.L ρ l).length / w.toNat) := by
  rw [decide_eq_decide, rows_I, sm_I_int]
  generalize (E.L ρ l).length / w.toNat = m
  omega
theorem decT {w : Int} : decide (E.I ρ (.int 20) < E.I ρ (.fn 9 (.pr l (.int w)))) = decide (20 < (E.L ρ l).length / w.toNat) := by
  rw [decide_eq_decide, rows_I, sm_I_int]
  generalize (E.L ρ l).length / w.toNat = m
  omega
theorem decL : decide (E.I ρ (.int 1000) < E.I ρ (.fn 0 l)) = decide (1000 < (E.L ρ l).length) := by
  rw [decide_eq_decide, len_I, sm_I_int]
  omega
theorem t108_first {x1 b1 x2 b2 x3 b3 x4 b4 x5 b5 x6 b6 x7 b7 x8 b8 x9 b9 x10 b10 x11 b11 x12 b12 x13 b13 x14 b14 x15 b15 x16 b16 x17 b17 x18 b18 x19 b19 x20 b20 x21 b21 : E} (ht : E.B ρ (.fn 119 X) = true) (h1 : E.B ρ (.fn 101 (.pr x1 (.pr b1 (.pr (.fn 10 (.int 0)) (.pr (.bool false) (.pr (.int 0) (.pr (.fn 23 (.pr (.fn 1 (.pr X (.int 0))) (.fn 10 (.int 0)))) (.int 1)))))))) = true) (h2 : E.B ρ (.fn 101 (.pr x2 (.pr b2 (.pr x1 (.pr b1 (.pr (.int 0) (.pr (.fn 23 (.pr (.fn 1 (.pr X (.int 1))) (.fn 10 (.int 0)))) (.int 1)))))))) = true) (h3 : E.B ρ (.fn 101 (.pr x3 (.pr b3 (.pr x2 (.pr b2 (.pr (.int 0) (.pr (.fn 23 (.pr (.fn 1 (.pr X (.int 2))) (.fn 23 (.pr (.fn 1 (.pr X (.int 3))) (.fn 23 (.pr (.fn 1 (.pr X (.int 4))) (.fn 23 (.pr (.fn 1 (.pr X (.int 5))) (.fn 10 (.int 0)))))))))) (.int 4)))))))) = true) (h4 : E.B ρ (.fn 101 (.pr x4 (.pr b4 (.pr x3 (.pr b3 (.pr (.int 0) (.pr (.fn 23 (.pr (.fn 1 (.pr X (.int 6))) (.fn 23 (.pr (.fn 1 (.pr X (.int 7))) (.fn 10 (.int 0)))))) (.int 2)))))))) = true) (h5 : E.B ρ (.fn 101 (.pr x5 (.pr b5 (.pr x4 (.pr b4 (.pr (.int 1) (.pr (.fn 1 (.pr X (.int 8))) (.fn 9 (.pr (.fn 1 (.pr X (.int 8))) (.int 12)))))))))) = true) (h6 : E.B ρ (.fn 101 (.pr x6 (.pr b6 (.pr x5 (.pr b5 (.pr (.int 1) (.pr (.fn 1 (.pr X (.int 9))) (.fn 9 (.pr (.fn 1 (.pr X (.int 9))) (.int 12)))))))))) = true) (h7 : E.B ρ (.fn 101 (.pr x7 (.pr b7 (.pr x6 (.pr b6 (.pr (.int 3) (.pr (.fn 23 (.pr (.fn 1 (.pr X (.int 10))) (.fn 23 (.pr (.fn 1 (.pr X (.int 11))) (.fn 23 (.pr (.fn 1 (.pr X (.int 12))) (.fn 10 (.int 0)))))))) (.int 3)))))))) = true) (h8 : E.B ρ (.fn 101 (.pr x8 (.pr b8 (.pr x7 (.pr b7 (.pr (.int 0) (.pr (.fn 23 (.pr (.fn 1 (.pr X (.int 13))) (.fn 23 (.pr (.fn 1 (.pr X (.int 14))) (.fn 10 (.int 0)))))) (.int 2)))))))) = true) (h9 : E.B ρ (.fn 101 (.pr x9 (.pr b9 (.pr x8 (.pr b8 (.pr (.int 0) (.pr (.fn 23 (.pr (.fn 1 (.pr X (.int 15))) (.fn 10 (.int 0)))) (.int 1)))))))) = true) (h10 : E.B ρ (.fn 101 (.pr x10 (.pr b10 (.pr x9 (.pr b9 (.pr (.int 0) (.pr (.fn 23 (.pr (.fn 1 (.pr X (.int 16))) (.fn 23 (.pr (.fn 1 (.pr X (.int 17))) (.fn 23 (.pr (.fn 1 (.pr X (.int 18))) (.fn 23 (.pr (.fn 1 (.pr X (.int 19))) (.fn 10 (.int 0)))))))))) (.int 4)))))))) = true) (h11 : E.B ρ (.fn 101 (.pr x11 (.pr b11 (.pr x10 (.pr b10 (.pr (.int 0) (.pr (.fn 23 (.pr (.fn 1 (.pr X (.int 20))) (.fn 23 (.pr (.fn 1 (.pr X (.int 21))) (.fn 10 (.int 0)))))) (.int 2)))))))) = true) (h12 : E.B ρ (.fn 101 (.pr x12 (.pr b12 (.pr x11 (.pr b11 (.pr (.int 1) (.pr (.fn 1 (.pr X (.int 22))) (.fn 9 (.pr (.fn 1 (.pr X (.int 22))) (.int 12)))))))))) = true) (h13 : E.B ρ (.fn 101 (.pr x13 (.pr b13 (.pr x12 (.pr b12 (.pr (.int 1) (.pr (.fn 1 (.pr X (.int 23))) (.fn 9 (.pr (.fn 1 (.pr X (.int 23))) (.int 12)))))))))) = true) (h14 : E.B ρ (.fn 101 (.pr x14 (.pr b14 (.pr x13 (.pr b13 (.pr (.int 3) (.pr (.fn 23 (.pr (.fn 1 (.pr X (.int 24))) (.fn 23 (.pr (.fn 1 (.pr X (.int 25))) (.fn 23 (.pr (.fn 1 (.pr X (.int 26))) (.fn 10 (.int 0)))))))) (.int 3)))))))) = true) (h15 : E.B ρ (.fn 101 (.pr x15 (.pr b15 (.pr x14 (.pr b14 (.pr (.int 0) (.pr (.fn 23 (.pr (.fn 1 (.pr X (.int 27))) (.fn 23 (.pr (.fn 1 (.pr X (.int 28))) (.fn 10 (.int 0)))))) (.int 2)))))))) = true) (h16 : E.B ρ (.fn 101 (.pr x16 (.pr b16 (.pr x15 (.pr b15 (.pr (.int 1) (.pr (.fn 1 (.pr X (.int 29))) (.fn 9 (.pr (.fn 1 (.pr X (.int 29))) (.int 12)))))))))) = true) (h17 : E.B ρ (.fn 101 (.pr x17 (.pr b17 (.pr x16 (.pr b16 (.pr (.int 2) (.pr (.fn 1 (.pr X (.int 30))) (.fn 9 (.pr (.fn 1 (.pr X (.int 30))) (.int 5)))))))))) = true) (h18 : E.B ρ (.fn 101 (.pr x18 (.pr b18 (.pr x17 (.pr b17 (.pr (.int 2) (.pr (.fn 1 (.pr X (.int 31))) (.fn 9 (.pr (.fn 1 (.pr X (.int 31))) (.int 5)))))))))) = true) (h19 : E.B ρ (.fn 102 (.pr x19 (.pr b19 (.pr x18 (.pr b18 (.pr (.fn 0 (.fn 1 (.pr X (.int 32)))) (.int 1000))))))) = true) (h20 : E.B ρ (.fn 101 (.pr x20 (.pr b20 (.pr x19 (.pr b19 (.pr (.int 0) (.pr (.fn 1 (.pr X (.int 32))) (.fn 0 (.fn 1 (.pr X (.int 32))))))))))) = true) (h21 : E.B ρ (.fn 102 (.pr x21 (.pr b21 (.pr x20 (.pr b20 (.pr (.fn 9 (.pr (.fn 1 (.pr X (.int 33))) (.int 2))) (.int 1000))))))) = true) : E.B ρ (.fn 108 (.pr x21 (.pr b21 (.pr X (.pr (.int 33) (.int 0)))))) = true := by
  have f10 := v8 ht 10 rfl
  have f11 := v8 ht 11 rfl
  have f12 := v8 ht 12 rfl
  have f24 := v8 ht 24 rfl
  have f25 := v8 ht 25 rfl
  have f26 := v8 ht 26 rfl
  rw [z108]
  refine (((((((((((((((((((((Eq.mp z101 h1).trans (Eq.mp z101 h2)).trans (Eq.mp z101 h3)).trans (Eq.mp z101 h4)).trans (Eq.mp z101 h5)).trans (Eq.mp z101 h6)).trans (Eq.mp z101 h7)).trans (Eq.mp z101 h8)).trans (Eq.mp z101 h9)).trans (Eq.mp z101 h10)).trans (Eq.mp z101 h11)).trans (Eq.mp z101 h12)).trans (Eq.mp z101 h13)).trans (Eq.mp z101 h14)).trans (Eq.mp z101 h15)).trans (Eq.mp z101 h16)).trans (Eq.mp z101 h17)).trans (Eq.mp z101 h18)).trans (Eq.mp z102 h19)).trans (Eq.mp z101 h20)).trans (Eq.mp z102 h21)).cast ?_ ?_
  · rw [sm_I_int, sm_I_int]
    show _ = viewF 0 33 (E.L ρ X) ++ flatK 5 (gU (E.L ρ X) 33).toL 0
    rw [viewF33]
    simp only [sm_I_int, Int.reduceToNat, L_cons, L_nil, L_nth, nth_den, rows_I, len_I, Int.toNat_natCast, flatK, List.take_succ_cons, List.take_zero, List.take_nil, List.map_cons, List.map_nil, Nat.zero_mul, List.flatMap_nil, f10, f11, f12, f24, f25, f26]
    simp only [List.append_assoc, List.cons_append, List.nil_append, List.append_nil, List.take_length, Nat.div_one]
  · simp only [decR, decL]
    rw [sm_I_int, sm_I_int]
    show _ = (viewB 0 33 (E.L ρ X) || sizeK 5 (gU (E.L ρ X) 33).toL 0)
    rw [viewB33]
    simp only [sm_I_int, Int.reduceToNat, L_cons, L_nil, L_nth, nth_den, rows_I, len_I, Int.toNat_natCast, flatK, List.take_succ_cons, List.take_zero, List.take_nil, List.map_cons, List.map_nil, Nat.zero_mul, List.flatMap_nil, sizeK]
    simp only [Bool.or_assoc, Bool.false_or, Bool.or_false, Nat.div_one, List.any_nil]
    rfl
theorem row_5 {l : List U} {i : Nat} (h : (i + 1) * 2 ≤ l.length) : flatK 5 l (i + 1) = flatK 5 l i ++ [gU l (i * 2 + 0), gU l (i * 2 + 1)].map num1 := by
  simp only [flatK, take_row h, List.map_append, List.range'_succ, List.range'_zero, List.map_cons, List.map_nil, List.cons_append, gU, Nat.add_zero, Nat.add_assoc, Nat.reduceAdd]
theorem t108_step33 {x1 b1 : E} (ht : E.B ρ (.fn 119 X) = true) (h0 : E.B ρ (.fn 108 (.pr x (.pr b (.pr X (.pr (.int 33) i))))) = true) (h1 : E.B ρ (.fn 101 (.pr x1 (.pr b1 (.pr x (.pr b (.pr (.int 0) (.pr (.fn 23 (.pr (cE (.fn 1 (.pr X (.int 33))) i 2 0) (.fn 23 (.pr (cE (.fn 1 (.pr X (.int 33))) i 2 1) (.fn 10 (.int 0)))))) (.int 2)))))))) = true)
    (hi : 0 ≤ E.I ρ i) (hl : E.I ρ i < E.I ρ (.fn 9 (.pr (.fn 1 (.pr X (.int 33))) (.int 2)))) (hj : E.I ρ n = E.I ρ i + 1) : E.B ρ (.fn 108 (.pr x1 (.pr b1 (.pr X (.pr (.int 33) n))))) = true := by
  have hlen : ((E.I ρ i).toNat + 1) * 2 ≤ (E.L ρ (.fn 1 (.pr X (.int 33)))).length := row_lt hi hl
  have d0 : (cE (.fn 1 (.pr X (.int 33))) i 2 0).den ρ = gU (E.L ρ (.fn 1 (.pr X (.int 33)))) ((E.I ρ i).toNat * 2 + 0) := cE_den (w := 2) (j := 0) hi
  have d1 : (cE (.fn 1 (.pr X (.int 33))) i 2 1).den ρ = gU (E.L ρ (.fn 1 (.pr X (.int 33)))) ((E.I ρ i).toNat * 2 + 1) := cE_den (w := 2) (j := 1) hi
  have hL : E.L ρ (.fn 1 (.pr X (.int 33))) = (gU (E.L ρ X) 33).toL := rfl
  rw [hL] at hlen
  rw [z108] at h0 ⊢
  rw [z101] at h1
  refine (h0.trans h1).cast ?_ ?_
  · rw [show (E.I ρ n).toNat = (E.I ρ i).toNat + 1 by omega]
    show viewF 0 33 (E.L ρ X) ++ flatK 5 (gU (E.L ρ X) 33).toL (E.I ρ i).toNat ++ flatK 0 _ 2 = viewF 0 33 (E.L ρ X) ++ flatK 5 (gU (E.L ρ X) 33).toL ((E.I ρ i).toNat + 1)
    rw [row_5 hlen, List.append_assoc]
    congr 2
    simp only [flatK, L_cons, L_nil]
    rw [d0, d1]
    rfl
  · rw [show (E.I ρ n).toNat = (E.I ρ i).toNat + 1 by omega]
    show ((viewB 0 33 (E.L ρ X) || sizeK 5 (gU (E.L ρ X) 33).toL (E.I ρ i).toNat) || false) = _
    rw [Bool.or_false]; rfl
theorem t110_step33 (ht : E.B ρ (.fn 119 X) = true) (h0 : E.B ρ (.fn 110 (.pr y (.pr X (.pr (.int 33) i)))) = true) (hi : 0 ≤ E.I ρ i) (hl : E.I ρ i < E.I ρ (.fn 9 (.pr (.fn 1 (.pr X (.int 33))) (.int 2)))) (hj : E.I ρ n = E.I ρ i + 1) : E.B ρ (.fn 110 (.pr (.fn 3 (.pr y (.fn 23 (.pr (cE (.fn 1 (.pr X (.int 33))) i 2 0) (.fn 23 (.pr (cE (.fn 1 (.pr X (.int 33))) i 2 1) (.fn 10 (.int 0)))))))) (.pr X (.pr (.int 33) n)))) = true := by
  have hlen : ((E.I ρ i).toNat + 1) * 2 ≤ (E.L ρ (.fn 1 (.pr X (.int 33)))).length := row_lt hi hl
  have d0 : (cE (.fn 1 (.pr X (.int 33))) i 2 0).den ρ = gU (E.L ρ (.fn 1 (.pr X (.int 33)))) ((E.I ρ i).toNat * 2 + 0) := cE_den (w := 2) (j := 0) hi
  have d1 : (cE (.fn 1 (.pr X (.int 33))) i 2 1).den ρ = gU (E.L ρ (.fn 1 (.pr X (.int 33)))) ((E.I ρ i).toNat * 2 + 1) := cE_den (w := 2) (j := 1) hi
  have hL : E.L ρ (.fn 1 (.pr X (.int 33))) = (gU (E.L ρ X) 33).toL := rfl
  have hk := vl ht 33 rfl
  rw [hL] at hlen
  have n0 : E.I ρ (cE (.fn 1 (.pr X (.int 33))) i 2 0) = num1 (gU (E.L ρ (.fn 1 (.pr X (.int 33)))) ((E.I ρ i).toNat * 2 + 0)) := by
    obtain ⟨k, h1, h2⟩ := typ_get hk (p := (E.I ρ i).toNat * 2 + 0) (by omega)
    simp only [List.length_cons, List.length_nil, Nat.zero_add, Nat.reduceAdd, mod_row (show 0 < 2 by omega), List.getElem?_cons_succ, List.getElem?_cons_zero, Option.some.injEq] at h1
    subst h1
    obtain ⟨m, hm, _⟩ := typ3 h2
    show ((cE (.fn 1 (.pr X (.int 33))) i 2 0).den ρ).toI = _
    rw [d0]
    show (gU (gU (E.L ρ X) 33).toL ((E.I ρ i).toNat * 2 + 0)).toI = num1 (gU (gU (E.L ρ X) 33).toL ((E.I ρ i).toNat * 2 + 0))
    rw [hm]; rfl
  have n1 : E.I ρ (cE (.fn 1 (.pr X (.int 33))) i 2 1) = num1 (gU (E.L ρ (.fn 1 (.pr X (.int 33)))) ((E.I ρ i).toNat * 2 + 1)) := by
    obtain ⟨k, h1, h2⟩ := typ_get hk (p := (E.I ρ i).toNat * 2 + 1) (by omega)
    simp only [List.length_cons, List.length_nil, Nat.zero_add, Nat.reduceAdd, mod_row (show 1 < 2 by omega), List.getElem?_cons_succ, List.getElem?_cons_zero, Option.some.injEq] at h1
    subst h1
    obtain ⟨m, hm, _⟩ := typ3 h2
    show ((cE (.fn 1 (.pr X (.int 33))) i 2 1).den ρ).toI = _
    rw [d1]
    show (gU (gU (E.L ρ X) 33).toL ((E.I ρ i).toNat * 2 + 1)).toI = num1 (gU (gU (E.L ρ X) 33).toL ((E.I ρ i).toNat * 2 + 1))
    rw [hm]; rfl
  rw [z110] at h0 ⊢
  rw [show (E.I ρ n).toNat = (E.I ρ i).toNat + 1 by omega]
  show _ = viewF 0 33 (E.L ρ X) ++ flatK 5 (gU (E.L ρ X) 33).toL ((E.I ρ i).toNat + 1)
  rw [row_5 hlen, ints_app, h0, List.append_assoc]
  congr 2
  simp only [ints_cons, ints_nil, n0, n1]
  rfl
theorem row_6 {l : List U} {i : Nat} (h : (i + 1) * 3 ≤ l.length) : flatK 6 l (i + 1) = flatK 6 l i ++ [gU l (i * 3 + 0), gU l (i * 3 + 1), gU l (i * 3 + 2)].map num1 := by
  simp only [flatK, take_row h, List.map_append, List.range'_succ, List.range'_zero, List.map_cons, List.map_nil, List.cons_append, gU, Nat.add_zero, Nat.add_assoc, Nat.reduceAdd]
theorem t108_step42 {x1 b1 : E} (ht : E.B ρ (.fn 119 X) = true) (h0 : E.B ρ (.fn 108 (.pr x (.pr b (.pr X (.pr (.int 42) i))))) = true) (h1 : E.B ρ (.fn 101 (.pr x1 (.pr b1 (.pr x (.pr b (.pr (.int 0) (.pr (.fn 23 (.pr (cE (.fn 1 (.pr X (.int 42))) i 3 0) (.fn 23 (.pr (cE (.fn 1 (.pr X (.int 42))) i 3 1) (.fn 23 (.pr (cE (.fn 1 (.pr X (.int 42))) i 3 2) (.fn 10 (.int 0)))))))) (.int 3)))))))) = true)
    (hi : 0 ≤ E.I ρ i) (hl : E.I ρ i < E.I ρ (.fn 9 (.pr (.fn 1 (.pr X (.int 42))) (.int 3)))) (hj : E.I ρ n = E.I ρ i + 1) : E.B ρ (.fn 108 (.pr x1 (.pr b1 (.pr X (.pr (.int 42) n))))) = true := by
  have hlen : ((E.I ρ i).toNat + 1) * 3 ≤ (E.L ρ (.fn 1 (.pr X (.int 42)))).length := row_lt hi hl
  have d0 : (cE (.fn 1 (.pr X (.int 42))) i 3 0).den ρ = gU (E.L ρ (.fn 1 (.pr X (.int 42)))) ((E.I ρ i).toNat * 3 + 0) := cE_den (w := 3) (j := 0) hi
  have d1 : (cE (.fn 1 (.pr X (.int 42))) i 3 1).den ρ = gU (E.L ρ (.fn 1 (.pr X (.int 42)))) ((E.I ρ i).toNat * 3 + 1) := cE_den (w := 3) (j := 1) hi
  have d2 : (cE (.fn 1 (.pr X (.int 42))) i 3 2).den ρ = gU (E.L ρ (.fn 1 (.pr X (.int 42)))) ((E.I ρ i).toNat * 3 + 2) := cE_den (w := 3) (j := 2) hi
  have hL : E.L ρ (.fn 1 (.pr X (.int 42))) = (gU (E.L ρ X) 42).toL := rfl
  rw [hL] at hlen
  rw [z108] at h0 ⊢
  rw [z101] at h1
  refine (h0.trans h1).cast ?_ ?_
  · rw [show (E.I ρ n).toNat = (E.I ρ i).toNat + 1 by omega]
    show viewF 0 42 (E.L ρ X) ++ flatK 6 (gU (E.L ρ X) 42).toL (E.I ρ i).toNat ++ flatK 0 _ 3 = viewF 0 42 (E.L ρ X) ++ flatK 6 (gU (E.L ρ X) 42).toL ((E.I ρ i).toNat + 1)
    rw [row_6 hlen, List.append_assoc]
    congr 2
    simp only [flatK, L_cons, L_nil]
    rw [d0, d1, d2]
    rfl
  · rw [show (E.I ρ n).toNat = (E.I ρ i).toNat + 1 by omega]
    show ((viewB 0 42 (E.L ρ X) || sizeK 6 (gU (E.L ρ X) 42).toL (E.I ρ i).toNat) || false) = _
    rw [Bool.or_false]; rfl
theorem t110_step42 (ht : E.B ρ (.fn 119 X) = true) (h0 : E.B ρ (.fn 110 (.pr y (.pr X (.pr (.int 42) i)))) = true) (hi : 0 ≤ E.I ρ i) (hl : E.I ρ i < E.I ρ (.fn 9 (.pr (.fn 1 (.pr X (.int 42))) (.int 3)))) (hj : E.I ρ n = E.I ρ i + 1) : E.B ρ (.fn 110 (.pr (.fn 3 (.pr y (.fn 23 (.pr (cE (.fn 1 (.pr X (.int 42))) i 3 0) (.fn 23 (.pr (cE (.fn 1 (.pr X (.int 42))) i 3 1) (.fn 23 (.pr (cE (.fn 1 (.pr X (.int 42))) i 3 2) (.fn 10 (.int 0)))))))))) (.pr X (.pr (.int 42) n)))) = true := by
  have hlen : ((E.I ρ i).toNat + 1) * 3 ≤ (E.L ρ (.fn 1 (.pr X (.int 42)))).length := row_lt hi hl
  have d0 : (cE (.fn 1 (.pr X (.int 42))) i 3 0).den ρ = gU (E.L ρ (.fn 1 (.pr X (.int 42)))) ((E.I ρ i).toNat * 3 + 0) := cE_den (w := 3) (j := 0) hi
  have d1 : (cE (.fn 1 (.pr X (.int 42))) i 3 1).den ρ = gU (E.L ρ (.fn 1 (.pr X (.int 42)))) ((E.I ρ i).toNat * 3 + 1) := cE_den (w := 3) (j := 1) hi
  have d2 : (cE (.fn 1 (.pr X (.int 42))) i 3 2).den ρ = gU (E.L ρ (.fn 1 (.pr X (.int 42)))) ((E.I ρ i).toNat * 3 + 2) := cE_den (w := 3) (j := 2) hi
  have hL : E.L ρ (.fn 1 (.pr X (.int 42))) = (gU (E.L ρ X) 42).toL := rfl
  have hk := vl ht 42 rfl
  rw [hL] at hlen
  have n0 : E.I ρ (cE (.fn 1 (.pr X (.int 42))) i 3 0) = num1 (gU (E.L ρ (.fn 1 (.pr X (.int 42)))) ((E.I ρ i).toNat * 3 + 0)) := by
    obtain ⟨k, h1, h2⟩ := typ_get hk (p := (E.I ρ i).toNat * 3 + 0) (by omega)
    simp only [List.length_cons, List.length_nil, Nat.zero_add, Nat.reduceAdd, mod_row (show 0 < 3 by omega), List.getElem?_cons_succ, List.getElem?_cons_zero, Option.some.injEq] at h1
    subst h1
    obtain ⟨m, hm, _⟩ := typ3 h2
    show ((cE (.fn 1 (.pr X (.int 42))) i 3 0).den ρ).toI = _
    rw [d0]
    show (gU (gU (E.L ρ X) 42).toL ((E.I ρ i).toNat * 3 + 0)).toI = num1 (gU (gU (E.L ρ X) 42).toL ((E.I ρ i).toNat * 3 + 0))
    rw [hm]; rfl
  have n1 : E.I ρ (cE (.fn 1 (.pr X (.int 42))) i 3 1) = num1 (gU (E.L ρ (.fn 1 (.pr X (.int 42)))) ((E.I ρ i).toNat * 3 + 1)) := by
    obtain ⟨k, h1, h2⟩ := typ_get hk (p := (E.I ρ i).toNat * 3 + 1) (by omega)
    simp only [List.length_cons, List.length_nil, Nat.zero_add, Nat.reduceAdd, mod_row (show 1 < 3 by omega), List.getElem?_cons_succ, List.getElem?_cons_zero, Option.some.injEq] at h1
    subst h1
    obtain ⟨m, hm, _⟩ := typ3 h2
    show ((cE (.fn 1 (.pr X (.int 42))) i 3 1).den ρ).toI = _
    rw [d1]
    show (gU (gU (E.L ρ X) 42).toL ((E.I ρ i).toNat * 3 + 1)).toI = num1 (gU (gU (E.L ρ X) 42).toL ((E.I ρ i).toNat * 3 + 1))
    rw [hm]; rfl
  have n2 : E.I ρ (cE (.fn 1 (.pr X (.int 42))) i 3 2) = num1 (gU (E.L ρ (.fn 1 (.pr X (.int 42)))) ((E.I ρ i).toNat * 3 + 2)) := by
    obtain ⟨k, h1, h2⟩ := typ_get hk (p := (E.I ρ i).toNat * 3 + 2) (by omega)
    simp only [List.length_cons, List.length_nil, Nat.zero_add, Nat.reduceAdd, mod_row (show 2 < 3 by omega), List.getElem?_cons_succ, List.getElem?_cons_zero, Option.some.injEq] at h1
    subst h1
    obtain ⟨m, hm, _⟩ := typ3 h2
    show ((cE (.fn 1 (.pr X (.int 42))) i 3 2).den ρ).toI = _
    rw [d2]
    show (gU (gU (E.L ρ X) 42).toL ((E.I ρ i).toNat * 3 + 2)).toI = num1 (gU (gU (E.L ρ X) 42).toL ((E.I ρ i).toNat * 3 + 2))
    rw [hm]; rfl
  rw [z110] at h0 ⊢
  rw [show (E.I ρ n).toNat = (E.I ρ i).toNat + 1 by omega]
  show _ = viewF 0 42 (E.L ρ X) ++ flatK 6 (gU (E.L ρ X) 42).toL ((E.I ρ i).toNat + 1)
  rw [row_6 hlen, ints_app, h0, List.append_assoc]
  congr 2
  simp only [ints_cons, ints_nil, n0, n1, n2]
  rfl
theorem t118_row33 (ht : E.B ρ (.fn 119 X) = true) (hi : 0 ≤ E.I ρ i) (hl : E.I ρ i < E.I ρ (.fn 9 (.pr (.fn 1 (.pr X (.int 33))) (.int 2)))) : E.B ρ (.fn 118 (.pr (.int 0) (.fn 23 (.pr (cE (.fn 1 (.pr X (.int 33))) i 2 0) (.fn 23 (.pr (cE (.fn 1 (.pr X (.int 33))) i 2 1) (.fn 10 (.int 0)))))))) = true := by
  have hlen : ((E.I ρ i).toNat + 1) * 2 ≤ (E.L ρ (.fn 1 (.pr X (.int 33)))).length := row_lt hi hl
  have hk : U.typs (E.L ρ (.fn 1 (.pr X (.int 33)))) _ [] = true := vl ht 33 rfl
  have g : ∀ q : Nat, q < 2 → ∃ m, (cE (.fn 1 (.pr X (.int 33))) i 2 (q : Int)).den ρ = .int m ∧ in64 m := fun q hq => by
    rw [show (cE (.fn 1 (.pr X (.int 33))) i 2 (q : Int)).den ρ = gU (E.L ρ (.fn 1 (.pr X (.int 33)))) ((E.I ρ i).toNat * 2 + q) from cE_den (w := 2) (j := q) hi]
    obtain ⟨kk, h1, h2⟩ := typ_get hk (p := (E.I ρ i).toNat * 2 + q) (by omega)
    simp only [List.length_cons, List.length_nil, Nat.zero_add, Nat.reduceAdd, mod_row hq] at h1
    rcases (show q = 0 ∨ q = 1 by omega) with rfl | rfl <;> simp only [List.getElem?_cons_succ, List.getElem?_cons_zero, Option.some.injEq] at h1 <;> subst h1 <;> exact typ3 h2
  exact (ty0_c (g 0 (by omega)) (ty0_c (g 1 (by omega)) ty0_nil))
theorem t118_row42 (ht : E.B ρ (.fn 119 X) = true) (hi : 0 ≤ E.I ρ i) (hl : E.I ρ i < E.I ρ (.fn 9 (.pr (.fn 1 (.pr X (.int 42))) (.int 3)))) : E.B ρ (.fn 118 (.pr (.int 0) (.fn 23 (.pr (cE (.fn 1 (.pr X (.int 42))) i 3 0) (.fn 23 (.pr (cE (.fn 1 (.pr X (.int 42))) i 3 1) (.fn 23 (.pr (cE (.fn 1 (.pr X (.int 42))) i 3 2) (.fn 10 (.int 0)))))))))) = true := by
  have hlen : ((E.I ρ i).toNat + 1) * 3 ≤ (E.L ρ (.fn 1 (.pr X (.int 42)))).length := row_lt hi hl
  have hk : U.typs (E.L ρ (.fn 1 (.pr X (.int 42)))) _ [] = true := vl ht 42 rfl
  have g : ∀ q : Nat, q < 3 → ∃ m, (cE (.fn 1 (.pr X (.int 42))) i 3 (q : Int)).den ρ = .int m ∧ in64 m := fun q hq => by
    rw [show (cE (.fn 1 (.pr X (.int 42))) i 3 (q : Int)).den ρ = gU (E.L ρ (.fn 1 (.pr X (.int 42)))) ((E.I ρ i).toNat * 3 + q) from cE_den (w := 3) (j := q) hi]
    obtain ⟨kk, h1, h2⟩ := typ_get hk (p := (E.I ρ i).toNat * 3 + q) (by omega)
    simp only [List.length_cons, List.length_nil, Nat.zero_add, Nat.reduceAdd, mod_row hq] at h1
    rcases (show q = 0 ∨ q = 1 ∨ q = 2 by omega) with rfl | rfl | rfl <;> simp only [List.getElem?_cons_succ, List.getElem?_cons_zero, Option.some.injEq] at h1 <;> subst h1 <;> exact typ3 h2
  exact (ty0_c (g 0 (by omega)) (ty0_c (g 1 (by omega)) (ty0_c (g 2 (by omega)) ty0_nil)))
theorem smZ : ((∀ (ρ : Env) (n : Int), (E.int n).I ρ = n) ∧ (∀ (ρ : Env) (a b : E), (E.fn 6 (.pr a b)).I ρ = a.I ρ + b.I ρ) ∧ (∀ (ρ : Env) (a b : E), (E.fn 7 (.pr a b)).I ρ = a.I ρ - b.I ρ) ∧ (∀ (ρ : Env) (a b : E), (E.fn 8 (.pr a b)).I ρ = a.I ρ * b.I ρ) ∧
    (∀ (ρ : Env) (b : Bool), (E.bool b).B ρ = b) ∧ (∀ (ρ : Env) (a b : E), ((E.cmp .eql a b).B ρ = true) = (a.I ρ = b.I ρ)) ∧ (∀ (ρ : Env) (a b : E), ((E.cmp .lss a b).B ρ = true) = (a.I ρ < b.I ρ)) ∧ (∀ (ρ : Env) (a : E), ((E.not a).B ρ = true) = ¬ (a.B ρ = true)) ∧
    (∀ (ρ : Env) (a b : E), ((E.and a b).B ρ = true) = (a.B ρ = true ∧ b.B ρ = true)) ∧ (∀ (ρ : Env) (a b : E), ((E.imp a b).B ρ = true) = (a.B ρ = true → b.B ρ = true)) ∧ (∀ (ρ : Env) (a b : E), ((E.iff a b).B ρ = true) = (a.B ρ = true ↔ b.B ρ = true)) ∧
    (∀ (ρ : Env) (a b : E), (E.mn a b).I ρ = min (a.I ρ) (b.I ρ)) ∧ (∀ (ρ : Env) (a b : E), (E.mx a b).I ρ = max (a.I ρ) (b.I ρ)) ∧ (∀ (ρ : Env) (k : IntKind) (a b : E), (E.ar .rem k a b).I ρ = (a.I ρ).tmod (b.I ρ)) ∧ (∀ (ρ : Env) (k : IntKind) (a : E), (E.wr k a).I ρ = k.wrap (a.I ρ)) ∧ (∀ p : Prop, (True → p) = p)) ∧ ((∀ (ρ : Env) (a b : E), (E.ar .add .i64 a b).I ρ = IntKind.i64.wrap (a.I ρ + b.I ρ)) ∧ (∀ (ρ : Env) (a b : E), (E.ar .sub .i64 a b).I ρ = IntKind.i64.wrap (a.I ρ - b.I ρ)) ∧ (∀ (ρ : Env) (a b : E), (E.ar .mul .i64 a b).I ρ = IntKind.i64.wrap (a.I ρ * b.I ρ))) ∧ (∀ (ρ : Env) (a b : E), E.I ρ (.fn 0 (.fn 23 (.pr a b))) = 1 + E.I ρ (.fn 0 b)) ∧ (∀ (ρ : Env) (a : E), E.I ρ (.fn 0 (.fn 10 a)) = 0) ∧ (∀ (ρ : Env) (v : E), E.I ρ (.ar .shr .u64 v (.int 7)) = E.I ρ v / 128) ∧ ((false = true) = False) ∧ (∀ n a b : Int, (n < max a b) = (n < a ∨ n < b)) ∧ (∀ (ρ : Env) (X : E), (E.B ρ (.fn 112 X) = true) = (E.I ρ (.fn 9 (.pr (.fn 1 (.pr X (.int 8))) (.int 12))) ≤ 60 ∧ E.I ρ (.fn 9 (.pr (.fn 1 (.pr X (.int 9))) (.int 12))) ≤ 60 ∧ E.I ρ (.fn 9 (.pr (.fn 1 (.pr X (.int 22))) (.int 12))) ≤ 60 ∧ E.I ρ (.fn 9 (.pr (.fn 1 (.pr X (.int 23))) (.int 12))) ≤ 60 ∧ E.I ρ (.fn 9 (.pr (.fn 1 (.pr X (.int 29))) (.int 12))) ≤ 60 ∧ E.I ρ (.fn 9 (.pr (.fn 1 (.pr X (.int 30))) (.int 5))) ≤ 60 ∧ E.I ρ (.fn 9 (.pr (.fn 1 (.pr X (.int 31))) (.int 5))) ≤ 60 ∧ E.I ρ (.fn 0 (.fn 1 (.pr X (.int 32)))) ≤ 60 ∧ E.I ρ (.fn 9 (.pr (.fn 1 (.pr X (.int 33))) (.int 2))) ≤ 60 ∧ E.I ρ (.fn 9 (.pr (.fn 1 (.pr X (.int 42))) (.int 3))) ≤ 60 ∧ E.I ρ (.fn 114 (.pr (.fn 1 (.pr X (.int 30))) (.fn 9 (.pr (.fn 1 (.pr X (.int 30))) (.int 5))))) ≤ 200 ∧ E.I ρ (.fn 114 (.pr (.fn 1 (.pr X (.int 31))) (.fn 9 (.pr (.fn 1 (.pr X (.int 31))) (.int 5))))) ≤ 200)) :=
  ⟨smA, smW, fun _ _ _ => len_cons, fun _ _ => len_nil, fun _ _ => I_shr, by simp, lt_mx, fun _ _ => z112'⟩
theorem t108_next {x1 b1 : E} (h0 : E.B ρ (.fn 108 (.pr x (.pr b (.pr X (.pr (.int 33) i))))) = true) (hi : E.I ρ i = E.I ρ (.fn 9 (.pr (.fn 1 (.pr X (.int 33))) (.int 2)))) (h1 : E.B ρ (.fn 101 (.pr x1 (.pr b1 (.pr x (.pr b (.pr (.int 0) (.pr (.fn 23 (.pr (.fn 1 (.pr X (.int 34))) (.fn 23 (.pr (.fn 1 (.pr X (.int 35))) (.fn 23 (.pr (.fn 1 (.pr X (.int 36))) (.fn 23 (.pr (.fn 1 (.pr X (.int 37))) (.fn 23 (.pr (.fn 1 (.pr X (.int 38))) (.fn 23 (.pr (.fn 1 (.pr X (.int 39))) (.fn 23 (.pr (.fn 1 (.pr X (.int 40))) (.fn 23 (.pr (.fn 1 (.pr X (.int 41))) (.fn 10 (.int 0)))))))))))))))))) (.int 8)))))))) = true) {x2 b2 : E} (h2 : E.B ρ (.fn 102 (.pr x2 (.pr b2 (.pr x1 (.pr b1 (.pr (.fn 9 (.pr (.fn 1 (.pr X (.int 42))) (.int 3))) (.int 20))))))) = true) :
    E.B ρ (.fn 108 (.pr x2 (.pr b2 (.pr X (.pr (.int 42) (.int 0)))))) = true := by
  rw [z108] at h0 ⊢
  rw [hi] at h0
  refine ((h0.trans (Eq.mp z101 h1)).trans (Eq.mp z102 h2)).cast ?_ ?_
  · show viewF 0 33 (E.L ρ X) ++ flatK 5 (gU (E.L ρ X) 33).toL _ ++ flatK 0 _ 8 ++ _ = viewF 0 42 (E.L ρ X) ++ flatK 6 (gU (E.L ρ X) 42).toL 0
    rw [viewF42]
    simp only [sm_I_int, Int.reduceToNat, L_cons, L_nil, L_nth, nth_den, rows_I, len_I, Int.toNat_natCast, flatK, List.take_succ_cons, List.take_zero, List.take_nil, List.map_cons, List.map_nil, Nat.zero_mul, List.flatMap_nil]
    simp only [List.append_assoc, List.cons_append, List.nil_append, List.append_nil]
  · simp only [decT]
    show (((viewB 0 33 (E.L ρ X) || sizeK 5 (gU (E.L ρ X) 33).toL _) || false) || decide (20 < (gU (E.L ρ X) 42).toL.length / 3)) = (viewB 0 42 (E.L ρ X) || sizeK 6 (gU (E.L ρ X) 42).toL 0)
    rw [viewB42]
    simp only [sm_I_int, Int.reduceToNat, L_cons, L_nil, L_nth, nth_den, rows_I, len_I, Int.toNat_natCast, flatK, List.take_succ_cons, List.take_zero, List.take_nil, List.map_cons, List.map_nil, Nat.zero_mul, List.flatMap_nil, sizeK]
    simp only [Bool.or_assoc, Bool.false_or, Bool.or_false, Nat.div_one, List.any_nil]
theorem t104_end (h0 : E.B ρ (.fn 108 (.pr x (.pr b (.pr X (.pr (.int 42) i))))) = true) (hi : E.I ρ i = E.I ρ (.fn 9 (.pr (.fn 1 (.pr X (.int 42))) (.int 3)))) : E.B ρ (.fn 104 (.pr x (.pr b (.pr X (.int 43))))) = true := by
  rw [z108] at h0; rw [z104]
  rw [hi] at h0
  refine h0.cast ?_ ?_
  · show viewF 0 42 (E.L ρ X) ++ flatK 6 (gU (E.L ρ X) 42).toL _ = viewF 0 43 (E.L ρ X)
    rw [viewF43]; rfl
  · show (viewB 0 42 (E.L ρ X) || sizeK 6 (gU (E.L ρ X) 42).toL _) = viewB 0 43 (E.L ρ X)
    rw [viewB43]; rfl
theorem t106_end (h0 : E.B ρ (.fn 110 (.pr y (.pr X (.pr (.int 42) i)))) = true) (hi : E.I ρ i = E.I ρ (.fn 9 (.pr (.fn 1 (.pr X (.int 42))) (.int 3)))) : E.B ρ (.fn 106 (.pr y X)) = true := by
  rw [z110] at h0; rw [z106, h0, hi]
  show viewF 0 42 (E.L ρ X) ++ flatK 6 (gU (E.L ρ X) 42).toL _ = viewF 0 43 (E.L ρ X)
  rw [viewF43]; rfl
theorem t110_next (ht : E.B ρ (.fn 119 X) = true) (h0 : E.B ρ (.fn 110 (.pr y (.pr X (.pr (.int 33) i)))) = true) (hi : E.I ρ i = E.I ρ (.fn 9 (.pr (.fn 1 (.pr X (.int 33))) (.int 2)))) :
    E.B ρ (.fn 110 (.pr (.fn 3 (.pr y (.fn 23 (.pr (.fn 1 (.pr X (.int 34))) (.fn 23 (.pr (.fn 1 (.pr X (.int 35))) (.fn 23 (.pr (.fn 1 (.pr X (.int 36))) (.fn 23 (.pr (.fn 1 (.pr X (.int 37))) (.fn 23 (.pr (.fn 1 (.pr X (.int 38))) (.fn 23 (.pr (.fn 1 (.pr X (.int 39))) (.fn 23 (.pr (.fn 1 (.pr X (.int 40))) (.fn 23 (.pr (.fn 1 (.pr X (.int 41))) (.fn 23 (.pr (.fn 9 (.pr (.fn 1 (.pr X (.int 42))) (.int 3))) (.fn 10 (.int 0)))))))))))))))))))))) (.pr X (.pr (.int 42) (.int 0))))) = true := by
  have n34 : E.I ρ (.fn 1 (.pr X (.int 34))) = _ := v3I ht 34 rfl rfl
  have n35 : E.I ρ (.fn 1 (.pr X (.int 35))) = _ := v3I ht 35 rfl rfl
  have n36 : E.I ρ (.fn 1 (.pr X (.int 36))) = _ := v3I ht 36 rfl rfl
  have n37 : E.I ρ (.fn 1 (.pr X (.int 37))) = _ := v3I ht 37 rfl rfl
  have n38 : E.I ρ (.fn 1 (.pr X (.int 38))) = _ := v3I ht 38 rfl rfl
  have n39 : E.I ρ (.fn 1 (.pr X (.int 39))) = _ := v3I ht 39 rfl rfl
  have n40 : E.I ρ (.fn 1 (.pr X (.int 40))) = _ := v3I ht 40 rfl rfl
  have n41 : E.I ρ (.fn 1 (.pr X (.int 41))) = _ := v3I ht 41 rfl rfl
  rw [z110] at h0 ⊢
  rw [hi] at h0
  show _ = viewF 0 42 (E.L ρ X) ++ flatK 6 (gU (E.L ρ X) 42).toL 0
  rw [viewF42, ints_app, h0]
  show viewF 0 33 (E.L ρ X) ++ flatK 5 (gU (E.L ρ X) 33).toL _ ++ _ = _
  simp only [ints_cons, ints_nil, n34, n35, n36, n37, n38, n39, n40, n41]
  simp only [sm_I_int, Int.reduceToNat, L_cons, L_nil, L_nth, nth_den, rows_I, len_I, Int.toNat_natCast, flatK, List.take_succ_cons, List.take_zero, List.take_nil, List.map_cons, List.map_nil, Nat.zero_mul, List.flatMap_nil]
  simp only [List.append_assoc, List.cons_append, List.nil_append, List.append_nil]
theorem t110_first {y1 y2 a10 a11 a12 y3 y4 a24 a25 a26 y5 y6 y7 y8 : E} (ht : E.B ρ (.fn 119 X) = true) (h1 : E.B ρ (.fn 109 (.pr y1 (.pr (.int 1) (.pr (.fn 1 (.pr X (.int 8))) (.fn 9 (.pr (.fn 1 (.pr X (.int 8))) (.int 12))))))) = true) (h2 : E.B ρ (.fn 109 (.pr y2 (.pr (.int 1) (.pr (.fn 1 (.pr X (.int 9))) (.fn 9 (.pr (.fn 1 (.pr X (.int 9))) (.int 12))))))) = true) (g10 : E.I ρ a10 = E.I ρ (.fn 116 (.fn 1 (.pr X (.int 10))))) (g11 : E.I ρ a11 = E.I ρ (.fn 116 (.fn 1 (.pr X (.int 11))))) (g12 : E.I ρ a12 = E.I ρ (.fn 116 (.fn 1 (.pr X (.int 12))))) (h3 : E.B ρ (.fn 109 (.pr y3 (.pr (.int 1) (.pr (.fn 1 (.pr X (.int 22))) (.fn 9 (.pr (.fn 1 (.pr X (.int 22))) (.int 12))))))) = true) (h4 : E.B ρ (.fn 109 (.pr y4 (.pr (.int 1) (.pr (.fn 1 (.pr X (.int 23))) (.fn 9 (.pr (.fn 1 (.pr X (.int 23))) (.int 12))))))) = true) (g24 : E.I ρ a24 = E.I ρ (.fn 116 (.fn 1 (.pr X (.int 24))))) (g25 : E.I ρ a25 = E.I ρ (.fn 116 (.fn 1 (.pr X (.int 25))))) (g26 : E.I ρ a26 = E.I ρ (.fn 116 (.fn 1 (.pr X (.int 26))))) (h5 : E.B ρ (.fn 109 (.pr y5 (.pr (.int 1) (.pr (.fn 1 (.pr X (.int 29))) (.fn 9 (.pr (.fn 1 (.pr X (.int 29))) (.int 12))))))) = true) (h6 : E.B ρ (.fn 109 (.pr y6 (.pr (.int 2) (.pr (.fn 1 (.pr X (.int 30))) (.fn 9 (.pr (.fn 1 (.pr X (.int 30))) (.int 5))))))) = true) (h7 : E.B ρ (.fn 109 (.pr y7 (.pr (.int 2) (.pr (.fn 1 (.pr X (.int 31))) (.fn 9 (.pr (.fn 1 (.pr X (.int 31))) (.int 5))))))) = true) (h8 : E.B ρ (.fn 109 (.pr y8 (.pr (.int 4) (.pr (.fn 1 (.pr X (.int 32))) (.fn 0 (.fn 1 (.pr X (.int 32)))))))) = true) : E.B ρ (.fn 110 (.pr (.fn 3 (.pr (.fn 3 (.pr (.fn 3 (.pr (.fn 3 (.pr (.fn 3 (.pr (.fn 3 (.pr (.fn 3 (.pr (.fn 3 (.pr (.fn 3 (.pr (.fn 3 (.pr (.fn 3 (.pr (.fn 3 (.pr (.fn 23 (.pr (.fn 1 (.pr X (.int 0))) (.fn 23 (.pr (.fn 1 (.pr X (.int 1))) (.fn 23 (.pr (.fn 1 (.pr X (.int 2))) (.fn 23 (.pr (.fn 1 (.pr X (.int 3))) (.fn 23 (.pr (.fn 1 (.pr X (.int 4))) (.fn 23 (.pr (.fn 1 (.pr X (.int 5))) (.fn 23 (.pr (.fn 1 (.pr X (.int 6))) (.fn 23 (.pr (.fn 1 (.pr X (.int 7))) (.fn 10 (.int 0)))))))))))))))))) y1)) y2)) (.fn 23 (.pr a10 (.fn 23 (.pr a11 (.fn 23 (.pr a12 (.fn 23 (.pr (.fn 1 (.pr X (.int 13))) (.fn 23 (.pr (.fn 1 (.pr X (.int 14))) (.fn 10 (.int 0)))))))))))))) (.fn 23 (.pr (.fn 1 (.pr X (.int 15))) (.fn 23 (.pr (.fn 1 (.pr X (.int 16))) (.fn 23 (.pr (.fn 1 (.pr X (.int 17))) (.fn 23 (.pr (.fn 1 (.pr X (.int 18))) (.fn 23 (.pr (.fn 1 (.pr X (.int 19))) (.fn 23 (.pr (.fn 1 (.pr X (.int 20))) (.fn 23 (.pr (.fn 1 (.pr X (.int 21))) (.fn 10 (.int 0)))))))))))))))))) y3)) y4)) (.fn 23 (.pr a24 (.fn 23 (.pr a25 (.fn 23 (.pr a26 (.fn 23 (.pr (.fn 1 (.pr X (.int 27))) (.fn 23 (.pr (.fn 1 (.pr X (.int 28))) (.fn 10 (.int 0)))))))))))))) y5)) y6)) y7)) y8)) (.fn 23 (.pr (.fn 9 (.pr (.fn 1 (.pr X (.int 33))) (.int 2))) (.fn 10 (.int 0)))))) (.pr X (.pr (.int 33) (.int 0))))) = true := by
  have n0 : E.I ρ (.fn 1 (.pr X (.int 0))) = _ := v3I ht 0 rfl rfl
  have n1 : E.I ρ (.fn 1 (.pr X (.int 1))) = _ := v3I ht 1 rfl rfl
  have n2 : E.I ρ (.fn 1 (.pr X (.int 2))) = _ := v3I ht 2 rfl rfl
  have n3 : E.I ρ (.fn 1 (.pr X (.int 3))) = _ := v3I ht 3 rfl rfl
  have n4 : E.I ρ (.fn 1 (.pr X (.int 4))) = _ := v3I ht 4 rfl rfl
  have n5 : E.I ρ (.fn 1 (.pr X (.int 5))) = _ := v3I ht 5 rfl rfl
  have n6 : E.I ρ (.fn 1 (.pr X (.int 6))) = _ := v3I ht 6 rfl rfl
  have n7 : E.I ρ (.fn 1 (.pr X (.int 7))) = _ := v3I ht 7 rfl rfl
  have n13 : E.I ρ (.fn 1 (.pr X (.int 13))) = _ := v3I ht 13 rfl rfl
  have n14 : E.I ρ (.fn 1 (.pr X (.int 14))) = _ := v3I ht 14 rfl rfl
  have n15 : E.I ρ (.fn 1 (.pr X (.int 15))) = _ := v3I ht 15 rfl rfl
  have n16 : E.I ρ (.fn 1 (.pr X (.int 16))) = _ := v3I ht 16 rfl rfl
  have n17 : E.I ρ (.fn 1 (.pr X (.int 17))) = _ := v3I ht 17 rfl rfl
  have n18 : E.I ρ (.fn 1 (.pr X (.int 18))) = _ := v3I ht 18 rfl rfl
  have n19 : E.I ρ (.fn 1 (.pr X (.int 19))) = _ := v3I ht 19 rfl rfl
  have n20 : E.I ρ (.fn 1 (.pr X (.int 20))) = _ := v3I ht 20 rfl rfl
  have n21 : E.I ρ (.fn 1 (.pr X (.int 21))) = _ := v3I ht 21 rfl rfl
  have n27 : E.I ρ (.fn 1 (.pr X (.int 27))) = _ := v3I ht 27 rfl rfl
  have n28 : E.I ρ (.fn 1 (.pr X (.int 28))) = _ := v3I ht 28 rfl rfl
  have m10 : E.I ρ a10 = _ := v8I ht 10 rfl rfl g10
  have m11 : E.I ρ a11 = _ := v8I ht 11 rfl rfl g11
  have m12 : E.I ρ a12 = _ := v8I ht 12 rfl rfl g12
  have m24 : E.I ρ a24 = _ := v8I ht 24 rfl rfl g24
  have m25 : E.I ρ a25 = _ := v8I ht 25 rfl rfl g25
  have m26 : E.I ρ a26 = _ := v8I ht 26 rfl rfl g26
  rw [z109] at h1 h2 h3 h4 h5 h6 h7 h8
  rw [z110]
  show _ = viewF 0 33 (E.L ρ X) ++ flatK 5 (gU (E.L ρ X) 33).toL 0
  rw [viewF33]
  simp only [ints_app, ints_cons, ints_nil, h1, h2, h3, h4, h5, h6, h7, h8, n0, n1, n2, n3, n4, n5, n6, n7, n13, n14, n15, n16, n17, n18, n19, n20, n21, n27, n28, m10, m11, m12, m24, m25, m26]
  simp only [sm_I_int, Int.reduceToNat, L_cons, L_nil, L_nth, nth_den, rows_I, len_I, Int.toNat_natCast, flatK, List.take_succ_cons, List.take_zero, List.take_nil, List.map_cons, List.map_nil, Nat.zero_mul, List.flatMap_nil]
  simp only [List.append_assoc, List.cons_append, List.nil_append, List.append_nil, List.take_length, Nat.div_one]
end
end Go.SX

set_option linter.unusedVariables false
set_option linter.unusedSimpArgs false
set_option linter.unusedSectionVars false
namespace Go.SX
/-! ### What comes in, and how much -/
/-- a count of what a reading holds -/
structure BulkOk {H : Type} (B : DataW H → Nat) (BA : List (DataW H) → Nat) : Prop where
  one : ∀ d, 1 ≤ B d
  agg : ∀ l, B (.agg l) = BA l + 1
  slice : ∀ l m, BA l + 1 ≤ B (.slice l m)
  cons : ∀ d l, BA (d :: l) = B d + BA l
theorem sizes_append : ∀ (a b : List U), U.sizes (a ++ b) = U.sizes a + U.sizes b
  | [], b => by simp [U.sizes]
  | u :: a, b => by simp only [List.cons_append, U.sizes, sizes_append a b]; omega
theorem sizes_flat {H : Type} {B : DataW H → Nat} {BA : List (DataW H) → Nat} (hB : BulkOk B BA) : ∀ (n : Nat) (f : Nat → List U) (zs : List (DataW H × List MemPlace)), zs.length = n → (∀ i, i < n → ∀ z, zs[i]? = some z → U.sizes (f i) ≤ B z.1) →
    U.sizes ((List.range n).flatMap f) ≤ BA (zs.map (·.1))
  | 0, f, zs, _, _ => by simp [U.sizes]
  | n + 1, f, [], h, _ => by simp at h
  | n + 1, f, z :: zs, h, hz => by
    rw [List.range_succ_eq_map, List.flatMap_cons, sizes_append, List.map_cons, hB.cons]
    have h1 := hz 0 (by omega) z rfl
    have h2 := sizes_flat hB n (fun i => f (i + 1)) zs (by simpa using h) (fun i hi y hy => hz (i + 1) (by omega) y (by simpa using hy))
    have e : (List.map Nat.succ (List.range n)).flatMap f = (List.range n).flatMap (fun i => f (i + 1)) := by
      rw [List.flatMap_map]
    rw [e]; omega
section
variable {H : Type} {enc : TypeId × Value → H} {P : Program} {w : World} {held : Bool}
theorem open_kz {B : DataW H → Nat} {BA : List (DataW H) → Nat} (hB : BulkOk B BA) : ∀ (n : Nat) (t : TypeId) (ks : List CK), ksOf P n t = some ks → ∀ (fuel : Nat) (cs : List Value) (x : DataW H × List MemPlace), DataW.trod enc P w 0 (fun _ => true) held fuel t cs = some x →
    ∃ us, RowOk (fun r => w.heap[r]?) ks us cs ∧ U.sizes us ≤ B x.1
  | 0, t, ks, h, _, _, _, _ => by cases h
  | n + 1, t, ks, h, fuel, cs, x, hx => by
    have ih := open_kz hB n
    simp only [ksOf] at h
    split at h
    · rename_i hu
      obtain ⟨b, rfl, _⟩ := DataW.trod_bool hu hx
      simp only [Option.some.injEq] at h; subst h
      exact ⟨[.bool b], RowOk.one (c := .bool) (u := .bool b) trivial rfl, by simpa [U.sizes, U.size] using hB.one _⟩
    · rename_i k hu
      obtain ⟨m, rfl, _, hw⟩ := DataW.trod_int hu hx
      simp only [Option.some.injEq] at h; subst h
      refine ⟨[.int m], RowOk.one (c := .int k) (u := .int m) trivial ?_, by simpa [U.sizes, U.size] using hB.one _⟩
      simp only [Lit.wf, Bool.and_eq_true, decide_eq_true_eq] at hw
      simp only [CK.typ, U.typ, decide_eq_true_eq]
      cases k <;> exact ⟨by decide, by simpa [IntKind.min, IntKind.max, IntKind.signed, IntKind.bits, ikU, kindLo, kindHi] using hw⟩
    · rename_i hu
      obtain ⟨b, rfl, _⟩ := DataW.trod_string hu hx
      simp only [Option.some.injEq] at h; subst h
      exact ⟨[.str b], RowOk.one (c := .str) (u := .str b) trivial rfl, by simpa [U.sizes, U.size] using hB.one _⟩
    · -- slice
      rename_i e hu
      split at h
      · rename_i ks' hks
        split at h
        · rename_i hc
          simp only [Bool.and_eq_true] at hc
          obtain ⟨hc1, hc2⟩ := hc
          have hlen : ks'.length = P.cellsOf e := Nat.eq_of_beq_eq_true hc1
          have hpos : 0 < ks'.length := blt_iff.1 hc2
          simp only [Option.some.injEq] at h; subst h
          rcases DataW.trod_slice hu hx with ⟨rfl, hx0⟩ | ⟨a, len, cap, elems, rest, m, _, rfl, hx0, _, hlc, _, hel, hget, hrest, _⟩
          · exact ⟨[.bx none 0 0 []], RowOk.one (c := .slc ks') (u := .bx none 0 0 []) .nil (by simp [CK.typ, U.typ, U.typs]), by simpa [U.sizes, U.size] using hB.one _⟩
          · have key : ∀ i, i < cap → ∃ y, (w.cells? 0 (a.add (i * P.cellsOf e)) (P.cellsOf e)).bind (DataW.trod enc P w 0 (fun _ => true) held m e) = some y := by
              intro i hi
              obtain ⟨hr1, hr2⟩ := hrest rfl
              by_cases hil : i < len
              · rw [hget i hil]
                exact ⟨_, List.getElem?_eq_getElem (by omega)⟩
              · have := hr2 (i - len) (by omega)
                rw [show len + (i - len) = i by omega] at this
                rw [this]
                exact ⟨_, List.getElem?_eq_getElem (by omega)⟩
            have cell : ∀ i, i < cap → ∃ us, (∃ cs', RowOk (fun r => w.heap[r]?) ks' us cs' ∧ ∀ r, r < ks'.length → w.cell? ((a.add (i * ks'.length)).add r) = cs'[r]?) ∧ (i < len → ∀ z, elems[i]? = some z → U.sizes us ≤ B z.1) := by
              intro i hi
              obtain ⟨y, hy⟩ := key i hi
              rw [Option.bind_eq_some_iff] at hy
              obtain ⟨cs', h1, h2⟩ := hy
              obtain ⟨us, hus, hsz⟩ := ih e ks' hks m cs' y h2
              refine ⟨us, ⟨cs', hus, fun r hr => ?_⟩, fun hil z hz => ?_⟩
              · have := (World.cells?_some h1).2.2 r (by omega)
                rw [hlen]; exact this
              · have h3 := hget i hil
                rw [hz, h1, Option.bind_some, h2] at h3
                simp only [Option.some.injEq] at h3
                subst h3; exact hsz
            have hspot : 0 < cap → a.spot = none ∧ ∃ arr elem fr, w.heap[a.block]? = some (.cells arr elem fr) := by
              intro hcap
              obtain ⟨us, ⟨cs', hrow, hcell⟩, _⟩ := cell 0 hcap
              have h0 := hcell 0 hpos
              have hlt : 0 < cs'.length := by rw [hrow.2.1]; exact hpos
              rw [List.getElem?_eq_getElem hlt] at h0
              rw [show (a.add (0 * ks'.length)).add 0 = a by simp [Addr.add]] at h0
              unfold World.cell? at h0
              split at h0
              · rename_i arr el fr hw
                split at h0
                · cases h0
                · rename_i hs
                  refine ⟨by simpa using hs, arr, el, fr, hw⟩
              · cases h0
            rcases Nat.eq_zero_or_pos cap with hz | hcp
            · subst hz
              have : len = 0 := by omega
              subst this
              exact ⟨[.bx (some a) 0 0 []], RowOk.one (c := .slc ks') (u := .bx (some a) 0 0 []) (.empty a) (by simp [CK.typ, U.typ, U.typs]), by simpa [U.sizes, U.size] using hB.one _⟩
            · obtain ⟨hsp, arr, el, fr, hw⟩ := hspot hcp
              obtain ⟨blk, off, spot⟩ := a
              have hsp' : spot = none := hsp
              have hw : w.heap[blk]? = some (.cells arr el fr) := hw
              subst hsp'
              let f : Nat → List U := fun i => if h : i < cap then Classical.choose (cell i h) else []
              have hf : ∀ i, (hi : i < cap) → ∃ cs', RowOk (fun r => w.heap[r]?) ks' (f i) cs' ∧ ∀ r, r < ks'.length → arr[off + (i * ks'.length + r)]? = cs'[r]? := by
                intro i hi
                obtain ⟨⟨cs', h1, h2⟩, _⟩ := Classical.choose_spec (cell i hi)
                have : f i = Classical.choose (cell i hi) := dif_pos hi
                rw [this]
                refine ⟨cs', h1, fun r hr => ?_⟩
                have := h2 r hr
                rw [← this]
                rw [addr_add, addr_add]
                simp only [World.cell?, hw, Option.isSome_none]
                simp [Nat.add_assoc]
              have hsz : ∀ i, i < len → ∀ z, elems[i]? = some z → U.sizes (f i) ≤ B z.1 := by
                intro i hi z hz
                have h1 := (Classical.choose_spec (cell i (by omega))).2 hi z hz
                have : f i = Classical.choose (cell i (by omega)) := dif_pos (by omega)
                rw [this]; exact h1
              have hfl : ∀ i, i < len → (f i).length = ks'.length := fun i hi => by obtain ⟨_, h1, _⟩ := hf i (by omega); exact h1.1
              obtain ⟨hL, hLg⟩ := flat_get len hfl
              have hat : ∀ j u, ((List.range len).flatMap f)[j]? = some u → ∃ c, ks'[j % ks'.length]? = some c ∧ arr[off + j]? = some (c.val u) ∧ c.ok (fun r => w.heap[r]?) u ∧ U.typ u c.typ = true := by
                intro j u hj
                have hlt : j < len * ks'.length := by rw [← hL]; exact (List.getElem?_eq_some_iff.1 hj).1
                have hdm : j / ks'.length * ks'.length + j % ks'.length = j := by rw [Nat.mul_comm]; exact Nat.div_add_mod j ks'.length
                have hi : j / ks'.length < len := (Nat.div_lt_iff_lt_mul hpos).2 hlt
                have hr : j % ks'.length < ks'.length := Nat.mod_lt _ hpos
                have h1 := hLg (j / ks'.length) (j % ks'.length) hi hr
                rw [hdm] at h1
                obtain ⟨cs', hrow, harr⟩ := hf (j / ks'.length) (by omega)
                obtain ⟨u', g1, g2, g3, g4⟩ := hrow.2.2 (j % ks'.length) ks'[j % ks'.length] (List.getElem?_eq_getElem hr)
                rw [h1, g1] at hj
                simp only [Option.some.injEq] at hj; subst hj
                have h2 := harr (j % ks'.length) hr
                rw [hdm] at h2
                exact ⟨_, List.getElem?_eq_getElem hr, by rw [h2, g2], g3, g4⟩
              refine ⟨[.bx (some ⟨blk, off, none⟩) len cap ((List.range len).flatMap f)], RowOk.one (c := .slc ks') (u := .bx (some ⟨blk, off, none⟩) len cap ((List.range len).flatMap f)) ?_ ?_, ?_⟩
              · refine .mk (arr := arr) (elem := el) (fr := fr) hL hlc (fun _ => hw) (fun j u hj => ?_) (fun j u ks2 hj hk2 => ?_)
                · obtain ⟨c, g1, g2, _⟩ := hat j u hj; exact ⟨c, g1, g2⟩
                · obtain ⟨c, g1, _, g3, _⟩ := hat j u hj
                  rw [hk2] at g1
                  simp only [Option.some.injEq] at g1; subst g1
                  exact g3
              · simp only [CK.typ, U.typ]
                have := typs_of (ks := ksTyp ks') ((List.range len).flatMap f) (ksTyp ks').length (Nat.le_refl _) (fun j u hj => by
                  have hkl : (ksTyp ks').length = ks'.length := by
                    apply Nat.le_antisymm
                    · rcases Nat.lt_or_ge ks'.length (ksTyp ks').length with h | h
                      · have := ksTyp_get ks' ks'.length
                        rw [List.getElem?_eq_getElem h] at this
                        simp at this
                      · exact h
                    · rcases Nat.lt_or_ge (ksTyp ks').length ks'.length with h | h
                      · have := ksTyp_get ks' (ksTyp ks').length
                        rw [List.getElem?_eq_getElem h] at this
                        simp at this
                      · exact h
                  obtain ⟨c, g1, _, _, g4⟩ := hat j u hj
                  refine ⟨c.typ, ?_, g4⟩
                  rw [hkl, Nat.add_mod_left, ksTyp_get, g1]; rfl)
                simpa using this
              · have h1 := sizes_flat hB len f elems hel hsz
                rw [hx0]
                have h2 := hB.slice (elems.map (·.1)) (rest.map (·.1))
                simp only [U.sizes, U.size] at h1 ⊢
                omega
        · cases h
      · cases h
    · -- struct
      rename_i fs hu
      obtain ⟨xs, m, _, hx0, hcl, hxl, hget⟩ := DataW.trod_struct hu hx
      split at h
      · rename_i ks' hks
        split at h
        · rename_i hc
          simp only [Option.some.injEq] at h; subst h
          have hlen : ks'.length = P.cellsOf t := Nat.eq_of_beq_eq_true hc
          have go : ∀ (l : List Field) (zs : List (DataW H × List MemPlace)) (off : Nat) (r : List CK), ksFields (ksOf P n) P l off = some r → (cs.drop off).length = r.length → zs.length = l.length →
              (∀ (i : Nat) (f : Field), l[i]? = some f → DataW.trod enc P w 0 (fun _ => true) held m f.type ((cs.drop f.offset).take (P.cellsOf f.type)) = zs[i]?) → ∃ us, RowOk (fun r => w.heap[r]?) r us (cs.drop off) ∧ U.sizes us ≤ BA (zs.map (·.1)) := by
            intro l
            induction l with
            | nil =>
              intro zs off r hr hl _ _
              simp only [ksFields, Option.some.injEq] at hr; subst hr
              have : cs.drop off = [] := List.length_eq_zero_iff.1 (by simpa using hl)
              rw [this]; exact ⟨[], RowOk.nil _, by simp [U.sizes]⟩
            | cons f l ihl =>
              intro zs off r hr hl hzl hall
              obtain ⟨y, zs, rfl⟩ : ∃ y zs', zs = y :: zs' := by
                cases zs with
                | nil => simp at hzl
                | cons y zs => exact ⟨y, zs, rfl⟩
              simp only [ksFields] at hr
              split at hr
              · rename_i k1 r1 hk1 hr1
                split at hr
                · rename_i hc
                  simp only [Bool.and_eq_true] at hc
                  have ho : f.offset = off := Nat.eq_of_beq_eq_true hc.1
                  have hk : k1.length = P.cellsOf f.type := Nat.eq_of_beq_eq_true hc.2
                  simp only [Option.some.injEq] at hr; subst hr
                  have hy := hall 0 f rfl
                  rw [ho] at hy
                  obtain ⟨us1, hu1, hs1⟩ := ih f.type k1 hk1 m _ y (by simpa using hy)
                  obtain ⟨us2, hu2, hs2⟩ := ihl zs (off + P.cellsOf f.type) r1 hr1 (by
                    simp only [List.length_drop, List.length_append] at hl ⊢
                    omega) (by simpa using hzl) (fun i g hg => by
                      have := hall (i + 1) g (by simpa using hg)
                      simpa using this)
                  refine ⟨us1 ++ us2, ?_, ?_⟩
                  · rw [split_at cs off (P.cellsOf f.type)]
                    exact hu1.append hu2
                  · rw [sizes_append, List.map_cons, hB.cons]; omega
                · cases hr
              · cases hr
          obtain ⟨us, hus, hsz⟩ := go fs.toList xs 0 ks' hks (by simp [hcl, hlen]) (by simpa using hxl) (fun i f hf => hget i f (by simpa using hf))
          refine ⟨us, by simpa using hus, ?_⟩
          rw [hx0, hB.agg]; omega
        · cases h
      · cases h
    · -- array
      rename_i q e hu
      obtain ⟨xs, m, _, hx0, hcl, hxl, hget⟩ := DataW.trod_array hu hx
      split at h
      · rename_i ks' hks
        split at h
        · rename_i hc
          simp only [Bool.and_eq_true] at hc
          have hk : ks'.length = P.cellsOf e := Nat.eq_of_beq_eq_true hc.1
          have ht : q * ks'.length = P.cellsOf t := Nat.eq_of_beq_eq_true hc.2
          simp only [Option.some.injEq] at h; subst h
          have go : ∀ (j i : Nat), i + j = q → ∃ us, RowOk (fun r => w.heap[r]?) (ksRep ks' j) us (cs.drop (i * P.cellsOf e)) ∧ U.sizes us ≤ BA ((xs.drop i).map (·.1)) := by
            intro j
            induction j with
            | zero =>
              intro i hi
              have : cs.drop (i * P.cellsOf e) = [] := by
                apply List.drop_eq_nil_of_le
                rw [hcl, ← ht, ← hk, show i = q by omega]
                exact Nat.le_refl _
              rw [this]; exact ⟨[], RowOk.nil _, by simp [U.sizes]⟩
            | succ j ihj =>
              intro i hi
              have hlt : i < q := by omega
              have hy := hget i hlt
              rw [List.getElem?_eq_getElem (by omega)] at hy
              obtain ⟨us1, hu1, hs1⟩ := ih e ks' hks m _ _ hy
              obtain ⟨us2, hu2, hs2⟩ := ihj (i + 1) (by omega)
              refine ⟨us1 ++ us2, ?_, ?_⟩
              · rw [split_at cs (i * P.cellsOf e) (P.cellsOf e)]
                rw [show (i + 1) * P.cellsOf e = i * P.cellsOf e + P.cellsOf e from Nat.succ_mul _ _] at hu2
                exact hu1.append hu2
              · rw [sizes_append, List.drop_eq_getElem_cons (by omega), List.map_cons, hB.cons]; omega
          obtain ⟨us, hus, hsz⟩ := go q 0 (by omega)
          refine ⟨us, by simpa using hus, ?_⟩
          rw [hx0, hB.agg]
          simp only [List.drop_zero] at hsz; omega
        · cases h
      · cases h
    · cases h


/-- the values of cells -/
def valsAt : List CK → List U → Nat → List Value
  | [], _, _ => []
  | c :: cs, us, j => c.val (us.getD j (.int 0)) :: valsAt cs us (j + 1)
theorem valsAt_eq {fz : Nat → Option Obj} {ks : List CK} {us : List U} {cs : List Value} (h : RowOk fz ks us cs) : ∀ (k : List CK) (j : Nat), ks.drop j = k → cs.drop j = valsAt k us j
  | [], j, hj => by
    have : ks.length ≤ j := by
      have := congrArg List.length hj
      simp only [List.length_drop, List.length_nil] at this; omega
    rw [List.drop_eq_nil_of_le (by rw [h.2.1]; exact this)]; rfl
  | c :: k, j, hj => by
    have hlt : j < ks.length := by
      have := congrArg List.length hj
      simp only [List.length_drop, List.length_cons] at this; omega
    rw [List.drop_eq_getElem_cons hlt] at hj
    simp only [List.cons.injEq] at hj
    obtain ⟨u, h1, h2, _⟩ := h.2.2 j ks[j] (List.getElem?_eq_getElem hlt)
    have hlt2 : j < cs.length := by rw [h.2.1]; exact hlt
    rw [List.drop_eq_getElem_cons hlt2, valsAt_eq h k (j + 1) hj.2]
    rw [List.getElem?_eq_getElem hlt2] at h2
    simp only [Option.some.injEq] at h2
    rw [h2, hj.1, valsAt, List.getD_eq_getElem?_getD, h1]; rfl
/-- a struct that comes in -/
theorem open_row {B : DataW H → Nat} {BA : List (DataW H) → Nat} (hB : BulkOk B BA) {n : Nat} {t : TypeId} {fs : Array Field} {ks : List CK} {r : Reach} {b0 : Nat} {v : Value} {d : DataW H} {ps : List MemPlace} (hu : P.underlying t = some (.struct fs)) (hk : ksOf P n t = some ks)
    (o : Value.okWide P w r b0 t v) (h : DataW.Trod enc P w 0 (fun _ => true) held t v d ps) : ∃ us : List U, v = .agg (valsAt ks us 0).toArray ∧ us.length = ks.length ∧ (∀ (i : Nat) (c : CK), ks[i]? = some c → c.ok (fun r => w.heap[r]?) (us.getD i (.int 0))) ∧ U.typs us (ksTyp ks) [] = true ∧ U.sizes us ≤ B d := by
  obtain ⟨fuel, h⟩ := h
  unfold Value.okWide at o
  rw [hu] at o
  obtain ⟨cs, rfl, _, _⟩ := o
  obtain ⟨us, h1, h2⟩ := open_kz hB n t _ hk fuel _ _ h
  have e : (Value.agg cs).cells.toList = cs.toList := rfl
  rw [e] at h1
  have hkl : (ksTyp ks).length = ks.length := by
    have g : ∀ l : List CK, (ksTyp l).length = l.length := by
      intro l
      induction l with
      | nil => simp [ksTyp]
      | cons c l ih => simp [ksTyp, ih]
    exact g ks
  refine ⟨us, ?_, h1.1, fun i c hc => ?_, ?_, h2⟩
  · have := valsAt_eq h1 ks 0 rfl
    rw [List.drop_zero] at this
    rw [← this, Array.toArray_toList]
  · obtain ⟨u, g1, _, g3, _⟩ := h1.2.2 i c hc
    rw [List.getD_eq_getElem?_getD, g1]; exact g3
  · have := typs_of (ks := ksTyp ks) us (ksTyp ks).length (Nat.le_refl _) (fun j u hj => by
      have hlt : j < ks.length := by rw [← h1.1]; exact (List.getElem?_eq_some_iff.1 hj).1
      obtain ⟨u', g1, _, _, g4⟩ := h1.2.2 j ks[j] (List.getElem?_eq_getElem hlt)
      rw [hj] at g1
      simp only [Option.some.injEq] at g1; subst g1
      refine ⟨ks[j].typ, ?_, g4⟩
      rw [hkl, Nat.add_mod_left, Nat.mod_eq_of_lt hlt, ksTyp_get, List.getElem?_eq_getElem hlt]; rfl)
    simpa using this
end
end Go.SX

set_option linter.unusedVariables false
set_option linter.unusedSimpArgs false
namespace Go.SX
/-! ### Bytes of numbers and views, and which are valid -/
section
variable {ρ : Env} {x y z l A X Y a b k u i j p q n m r o c d w v x' b' x1 b1 x2 b2 : E}
theorem z120 : (E.B ρ (.fn 120 (.pr y n)) = true) = (ints ρ y = enc1 (E.I ρ n)) := by
  apply propext; show (ints ρ y == enc1 (E.I ρ n)) = true ↔ _; rw [beq_iff_eq]
theorem z121 : (E.B ρ (.fn 121 (.pr y (.pr n v))) = true) = (ints ρ y ++ vi (E.I ρ v).toNat (E.I ρ v).toNat = enc1 (E.I ρ n)) := by
  apply propext; show (ints ρ y ++ vi (E.I ρ v).toNat (E.I ρ v).toNat == enc1 (E.I ρ n)) = true ↔ _; rw [beq_iff_eq]
theorem z122 : (E.B ρ (.fn 122 X) = true) = ((viewF 0 43 (E.L ρ X)).any out1 = false) := by
  apply propext; show (!((viewF 0 43 (E.L ρ X)).any out1)) = true ↔ _
  cases (viewF 0 43 (E.L ρ X)).any out1 <;> simp
theorem z123 : (E.B ρ (.fn 123 (.pr y X)) = true) = (ints ρ y = encs (viewF 0 43 (E.L ρ X))) := by
  apply propext; show (ints ρ y == encs (viewF 0 43 (E.L ρ X))) = true ↔ _; rw [beq_iff_eq]
theorem z124 : (E.B ρ (.fn 124 (.pr y (.pr z i))) = true) = (ints ρ y = encs ((ints ρ z).take (E.I ρ i).toNat)) := by
  apply propext; show (ints ρ y == encs ((ints ρ z).take (E.I ρ i).toNat)) = true ↔ _; rw [beq_iff_eq]
theorem z125 : (E.B ρ (.fn 125 X) = true) = (viewB 0 43 (E.L ρ X) = false) := by
  apply propext; show (!(viewB 0 43 (E.L ρ X))) = true ↔ _
  cases viewB 0 43 (E.L ρ X) <;> simp
theorem z126 : (E.B ρ (.fn 126 (.pr l i)) = true) = (((E.L ρ l).take ((E.I ρ i).toNat * 5)).any tgtBad = false) := by
  apply propext; show (!(((E.L ρ l).take ((E.I ρ i).toNat * 5)).any tgtBad)) = true ↔ _
  cases ((E.L ρ l).take ((E.I ρ i).toNat * 5)).any tgtBad <;> simp
theorem z128 : (E.B ρ (.fn 128 (.pr z i)) = true) = (((ints ρ z).take (E.I ρ i).toNat).any out1 = false) := by
  apply propext; show (!(((ints ρ z).take (E.I ρ i).toNat).any out1)) = true ↔ _
  cases ((ints ρ z).take (E.I ρ i).toNat).any out1 <;> simp
theorem z127 : (E.B ρ (.fn 127 X) = true) = ((E.I ρ (.fn 1 (.pr X (.int 0))) = 0 ∨ E.I ρ (.fn 1 (.pr X (.int 0))) = 1) ∧ E.B ρ (.fn 125 X) = true ∧ E.B ρ (.fn 122 X) = true ∧ (encs (viewF 0 43 (E.L ρ X))).length ≤ 65535) := by
  apply propext
  show ((((E.I ρ (.fn 1 (.pr X (.int 0))) == 0) || (E.I ρ (.fn 1 (.pr X (.int 0))) == 1)) && E.B ρ (.fn 125 X) && E.B ρ (.fn 122 X) && decide ((encs (viewF 0 43 (E.L ρ X))).length ≤ 65535)) = true) ↔ _
  simp only [Bool.and_eq_true, Bool.or_eq_true, beq_iff_eq, decide_eq_true_eq, and_assoc]
/-! numbers -/
theorem wrap_in {t : Int} (h0 : -9223372036854775808 ≤ t) (h1 : t < 9223372036854775808) : IntKind.i64.wrap t = t := by
  obtain ⟨s, e, _, h⟩ := cs_i64 t
  rw [e]; exact h h0 h1
theorem zn_neg (h : -2147483647 ≤ E.I ρ n) (h0 : E.I ρ n < 0) : E.I ρ (.wr .u64 (.ar .sub .i64 (.ar .mul .i64 (.int (-2)) n) (.int 1))) = (zig (E.I ρ n) : Int) := by
  show (IntKind.i64.wrap (IntKind.i64.wrap (-2 * E.I ρ n) - 1)) % 18446744073709551616 = _
  rw [wrap_in (t := -2 * E.I ρ n) (by omega) (by omega), wrap_in (by omega) (by omega)]
  unfold zig; rw [if_pos h0]; omega
theorem zn_nn (h : E.I ρ n ≤ 2147483647) (h0 : 0 ≤ E.I ρ n) : E.I ρ (.wr .u64 (.ar .mul .i64 (.int 2) n)) = (zig (E.I ρ n) : Int) := by
  show (IntKind.i64.wrap (2 * E.I ρ n)) % 18446744073709551616 = _
  rw [wrap_in (by omega) (by omega)]
  unfold zig; rw [if_neg (by omega)]; omega
theorem t121_start (h : E.I ρ v = (zig (E.I ρ n) : Int)) : E.B ρ (.fn 121 (.pr (.fn 10 (.int 0)) (.pr n v))) = true := by
  rw [z121, ints_nil, h]; rfl
theorem I_b128 (h0 : 0 ≤ E.I ρ v) : E.I ρ (.wr .u8 (.ar .add .u64 (.int 128) (.ar .rem .u64 v (.int 128)))) = 128 + E.I ρ v % 128 := by
  show (((128 : Int) + (E.I ρ v).tmod 128) % 18446744073709551616) % 256 = _
  rw [Int.tmod_eq_emod_of_nonneg h0]; omega
theorem I_q128 (h0 : 0 ≤ E.I ρ v) (h1 : E.I ρ v ≤ 18446744073709551615) : E.I ρ (.ar .quo .u64 v (.int 128)) = E.I ρ v / 128 := by
  show ((E.I ρ v).tdiv 128) % 18446744073709551616 = _
  rw [Int.tdiv_eq_ediv_of_nonneg h0]; omega
theorem t121_step (h : E.B ρ (.fn 121 (.pr y (.pr n v))) = true) (hv : 128 ≤ E.I ρ v) (hA : E.I ρ A = 128 + E.I ρ v % 128) (hw : E.I ρ w = E.I ρ v / 128) : E.B ρ (.fn 121 (.pr (.fn 3 (.pr y (.fn 23 (.pr A (.fn 10 (.int 0)))))) (.pr n w))) = true := by
  rw [z121] at h ⊢
  rw [← h, ints_app, ints_cons, ints_nil, List.append_assoc]
  congr 1
  obtain ⟨m, hm⟩ : ∃ m : Nat, E.I ρ v = m := ⟨(E.I ρ v).toNat, by omega⟩
  rw [vi_ge (x := (E.I ρ v).toNat) (by omega), hA, hw, hm]
  have e1 : ((m : Int) / 128).toNat = m / 128 := by omega
  have e2 : (128 + (m : Int) % 128) = ((128 + m % 128 : Nat) : Int) := by omega
  rw [e1, e2]; rfl
theorem t121_step0 (h : E.B ρ (.fn 121 (.pr (.fn 10 (.int 0)) (.pr n v))) = true) (hv : 128 ≤ E.I ρ v) (hA : E.I ρ A = 128 + E.I ρ v % 128) (hw : E.I ρ w = E.I ρ v / 128) : E.B ρ (.fn 121 (.pr (.fn 23 (.pr A (.fn 10 (.int 0)))) (.pr n w))) = true := by
  have := t121_step h hv hA hw
  rw [z121] at this ⊢
  rwa [ints_app, ints_nil, List.nil_append] at this
theorem t120_end (h : E.B ρ (.fn 121 (.pr y (.pr n v))) = true) (hv : E.I ρ v < 128) (h0 : 0 ≤ E.I ρ v) (hA : E.I ρ A = E.I ρ v) : E.B ρ (.fn 120 (.pr (.fn 3 (.pr y (.fn 23 (.pr A (.fn 10 (.int 0)))))) n)) = true := by
  rw [z121] at h; rw [z120, ← h, ints_app, ints_cons, ints_nil, vi_lt (by omega), hA]
  have : ((E.I ρ v).toNat : Int) = E.I ρ v := by omega
  rw [this]
theorem t120_end0 (h : E.B ρ (.fn 121 (.pr (.fn 10 (.int 0)) (.pr n v))) = true) (hv : E.I ρ v < 128) (h0 : 0 ≤ E.I ρ v) (hA : E.I ρ A = E.I ρ v) : E.B ρ (.fn 120 (.pr (.fn 23 (.pr A (.fn 10 (.int 0)))) n)) = true := by
  have := t120_end h hv h0 hA
  rw [z120] at this ⊢
  rwa [ints_app, ints_nil, List.nil_append] at this
theorem t121_len (h : E.B ρ (.fn 121 (.pr y (.pr n v))) = true) (h0 : -2147483647 ≤ E.I ρ n) (h1 : E.I ρ n ≤ 2147483647) : E.I ρ (.fn 0 y) + 1 ≤ 10 := by
  rw [z121] at h
  have g := congrArg List.length h
  rw [List.length_append] at g
  have hp := vi_pos (E.I ρ v).toNat (E.I ρ v).toNat
  have h2 := enc1_len (n := E.I ρ n) ⟨by omega, by omega⟩
  have a1 := ints_len (ρ := ρ) (l := y)
  omega
/-! bytes of views -/
theorem t124_first (h : E.B ρ (.fn 120 (.pr y (.fn 1 (.pr z (.int 0))))) = true) (hz : 1 ≤ E.I ρ (.fn 0 z)) : E.B ρ (.fn 124 (.pr y (.pr z (.int 1)))) = true := by
  rw [z120, I_nth'] at h; rw [z124, h]
  have a1 := ints_len (ρ := ρ) (l := z)
  show enc1 ((ints ρ z).getD 0 0) = encs ((ints ρ z).take (0 + 1))
  rw [take_succ' (by omega)]; simp [encs]
theorem t124_step (h : E.B ρ (.fn 124 (.pr y (.pr z i))) = true) (h1 : E.B ρ (.fn 120 (.pr x (.fn 1 (.pr z i)))) = true) (hi : 0 ≤ E.I ρ i) (hz : E.I ρ i < E.I ρ (.fn 0 z)) (hj : E.I ρ j = E.I ρ i + 1) : E.B ρ (.fn 124 (.pr (.fn 3 (.pr y x)) (.pr z j))) = true := by
  rw [z120, I_nth'] at h1; rw [z124] at h ⊢
  have a1 := ints_len (ρ := ρ) (l := z)
  rw [show (E.I ρ j).toNat = (E.I ρ i).toNat + 1 by omega, take_succ' (by omega), encs_append, ints_app, h, h1]
  simp [encs]
theorem t123_end (h : E.B ρ (.fn 124 (.pr y (.pr z i))) = true) (hz : E.B ρ (.fn 106 (.pr z X)) = true) (hi : E.I ρ (.fn 0 z) ≤ E.I ρ i) : E.B ρ (.fn 123 (.pr y X)) = true := by
  rw [z124] at h; rw [z106] at hz; rw [z123, h]
  have a1 := ints_len (ρ := ρ) (l := z)
  rw [List.take_of_length_le (by omega), hz]
theorem t122_get (h : E.B ρ (.fn 122 X) = true) (hz : E.B ρ (.fn 106 (.pr z X)) = true) (hi : 0 ≤ E.I ρ i) (hl : E.I ρ i < E.I ρ (.fn 0 z)) : -2147483647 ≤ E.I ρ (.fn 1 (.pr z i)) ∧ E.I ρ (.fn 1 (.pr z i)) ≤ 2147483647 := by
  rw [z122] at h; rw [z106] at hz
  rw [← hz, List.any_eq_false] at h
  have a1 := ints_len (ρ := ρ) (l := z)
  have hlt : (E.I ρ i).toNat < (ints ρ z).length := by omega
  have := h _ (List.getElem_mem hlt)
  rw [I_nth', List.getD_eq_getElem?_getD, List.getElem?_eq_getElem hlt]
  show -2147483647 ≤ (ints ρ z)[(E.I ρ i).toNat] ∧ (ints ρ z)[(E.I ρ i).toNat] ≤ 2147483647
  unfold out1 at this
  simp only [decide_eq_true_eq] at this
  omega
theorem t122_not (hz : E.B ρ (.fn 106 (.pr z X)) = true) (hi : 0 ≤ E.I ρ i) (hl : E.I ρ i < E.I ρ (.fn 0 z)) (h : E.I ρ (.fn 1 (.pr z i)) < -2147483647 ∨ 2147483647 < E.I ρ (.fn 1 (.pr z i))) : ¬ E.B ρ (.fn 127 X) = true := by
  intro h'
  rw [z127] at h'
  have := t122_get h'.2.2.1 hz hi hl
  omega
theorem t128_zero (h : E.I ρ i ≤ 0) : E.B ρ (.fn 128 (.pr z i)) = true := by
  rw [z128, show (E.I ρ i).toNat = 0 by omega]; rfl
theorem t128_step (h : E.B ρ (.fn 128 (.pr z i)) = true) (hi : 0 ≤ E.I ρ i) (hl : E.I ρ i < E.I ρ (.fn 0 z)) (h0 : -2147483647 ≤ E.I ρ (.fn 1 (.pr z i))) (h1 : E.I ρ (.fn 1 (.pr z i)) ≤ 2147483647) (hj : E.I ρ j = E.I ρ i + 1) : E.B ρ (.fn 128 (.pr z j)) = true := by
  rw [z128] at h ⊢
  have a1 := ints_len (ρ := ρ) (l := z)
  rw [show (E.I ρ j).toNat = (E.I ρ i).toNat + 1 by omega, take_succ' (by omega), List.any_append, h]
  rw [I_nth'] at h0 h1
  have : out1 ((ints ρ z).getD (E.I ρ i).toNat 0) = false := decide_eq_false (by omega)
  show (false || (out1 _ || false)) = false
  rw [this]; rfl
theorem t122_end (h : E.B ρ (.fn 128 (.pr z i)) = true) (hz : E.B ρ (.fn 106 (.pr z X)) = true) (hi : E.I ρ (.fn 0 z) ≤ E.I ρ i) : E.B ρ (.fn 122 X) = true := by
  rw [z128] at h; rw [z106] at hz; rw [z122, ← hz]
  have a1 := ints_len (ρ := ρ) (l := z)
  rwa [List.take_of_length_le (by omega)] at h
theorem t127_len (h : E.B ρ (.fn 123 (.pr y X)) = true) : (E.B ρ (.fn 127 X) = true) = ((E.I ρ (.fn 1 (.pr X (.int 0))) = 0 ∨ E.I ρ (.fn 1 (.pr X (.int 0))) = 1) ∧ E.B ρ (.fn 125 X) = true ∧ E.B ρ (.fn 122 X) = true ∧ E.I ρ (.fn 0 y) ≤ 65535) := by
  rw [z123] at h
  have a1 := ints_len (ρ := ρ) (l := y)
  rw [z127, ← h]
  congr 3
  apply propext; omega
theorem t123_of (h : E.B ρ (.fn 104 (.pr x (.pr b (.pr X (.int 43))))) = true) : E.B ρ (.fn 123 (.pr x X)) = true := by
  rw [z104] at h; rw [z123]; exact h.1
theorem t_ok (h : E.B ρ (.fn 104 (.pr x (.pr b (.pr X (.int 43))))) = true) (hb : ¬ E.B ρ b = true) : E.B ρ (.fn 125 X) = true ∧ E.B ρ (.fn 122 X) = true := by
  rw [z104] at h
  have h2 : E.B ρ b = (false || viewB 0 43 (E.L ρ X) || (viewF 0 43 (E.L ρ X)).any out1) := h.2
  rw [z125, z122]
  rw [h2] at hb
  cases h3 : viewB 0 43 (E.L ρ X) <;> cases h4 : (viewF 0 43 (E.L ρ X)).any out1 <;> simp [h3, h4] at hb ⊢
theorem t_bad (h : E.B ρ (.fn 104 (.pr x (.pr b (.pr X (.int 43))))) = true) (hb : E.B ρ b = true) : ¬ E.B ρ (.fn 127 X) = true := by
  rw [z104] at h
  have h2 : E.B ρ b = (false || viewB 0 43 (E.L ρ X) || (viewF 0 43 (E.L ρ X)).any out1) := h.2
  rw [z127, z125, z122]
  rw [h2] at hb
  cases h3 : viewB 0 43 (E.L ρ X) <;> cases h4 : (viewF 0 43 (E.L ρ X)).any out1 <;> simp [h3, h4] at hb ⊢
theorem t_seq (h1 : E.B ρ (.fn 123 (.pr x X)) = true) (h2 : E.B ρ (.fn 123 (.pr y X)) = true) : E.B ρ (.seq (.fn 41 x) (.fn 41 y)) = true := by
  rw [z123] at h1 h2
  rw [sm_B_seq, eqS_iff]
  have e : ∀ q : E, E.S ρ (.fn 41 q) = ⟨((ints ρ q).map fun n => UInt8.ofNat n.toNat).toArray⟩ := fun q => by
    show (⟨((E.L ρ q).map fun u => UInt8.ofNat u.toI.toNat).toArray⟩ : ByteArray) = _
    rw [ints, List.map_map]; rfl
  rw [e, e, h1, h2]
/-! lists that are not too long -/
theorem t126_zero (h : E.I ρ i ≤ 0) : E.B ρ (.fn 126 (.pr l i)) = true := by
  rw [z126, show (E.I ρ i).toNat = 0 by omega]; simp
theorem t126_eq (h : E.B ρ (.fn 126 (.pr l i)) = true) (hi : E.I ρ j = E.I ρ i) : E.B ρ (.fn 126 (.pr l j)) = true := by
  rw [z126] at h ⊢; rw [hi]; exact h
theorem tgt_len (hi : 0 ≤ E.I ρ i) : E.I ρ (.fn 9 (.pr (.fn 1 (.pr l (.fn 6 (.pr (.fn 8 (.pr i (.int 5))) (.int 4))))) (.int 2))) = (((gU (E.L ρ l) ((E.I ρ i).toNat * 5 + 4)).toL.length / 2 : Nat) : Int) := by
  have d4 : (cE l i 5 4).den ρ = gU (E.L ρ l) ((E.I ρ i).toNat * 5 + 4) := cE_den (w := 5) (j := 4) hi
  rw [rows_I]
  show (((((cE l i 5 4).den ρ).toL.length / 2 : Nat)) : Int) = _
  rw [d4]
theorem t126_step (ht : E.B ρ (.fn 118 (.pr (.int 2) l)) = true) (h : E.B ρ (.fn 126 (.pr l i)) = true) (hi : 0 ≤ E.I ρ i) (hl : E.I ρ i < E.I ρ (.fn 9 (.pr l (.int 5)))) (hs : E.I ρ (.fn 9 (.pr (.fn 1 (.pr l (.fn 6 (.pr (.fn 8 (.pr i (.int 5))) (.int 4))))) (.int 2))) ≤ 16) (hj : E.I ρ j = E.I ρ i + 1) : E.B ρ (.fn 126 (.pr l j)) = true := by
  have hlen : ((E.I ρ i).toNat + 1) * 5 ≤ (E.L ρ l).length := row_lt hi hl
  have hT := ty2' ht hi hl
  rw [tgt_len hi] at hs
  rw [z126] at h ⊢
  have e := itemB_eq hlen (fun q hq => by obtain ⟨m, hm, _⟩ := hT.1 q hq; rw [hm]; simp [tgtBad, U.toL])
  simp only [itemB, sizeK] at e
  have h4 : tgtBad (gU (E.L ρ l) ((E.I ρ i).toNat * 5 + 4)) = false := decide_eq_false (by omega)
  rw [show (E.I ρ j).toNat = (E.I ρ i).toNat + 1 by omega]
  rw [h4, h, Bool.or_false, Bool.or_false] at e
  cases hd : ((E.L ρ l).take (((E.I ρ i).toNat + 1) * 5)).any tgtBad with
  | false => rfl
  | true =>
    exfalso
    rw [take_row hlen, List.any_append, h, Bool.false_or, List.any_eq_true] at hd
    obtain ⟨u, hu, hb⟩ := hd
    rw [List.mem_map] at hu
    obtain ⟨p, hp, rfl⟩ := hu
    rw [List.mem_range'_1] at hp
    by_cases hp4 : p = (E.I ρ i).toNat * 5 + 4
    · subst hp4; rw [show (E.L ρ l).getD ((E.I ρ i).toNat * 5 + 4) (.int 0) = gU (E.L ρ l) ((E.I ρ i).toNat * 5 + 4) from rfl, h4] at hb; cases hb
    · obtain ⟨q, rfl⟩ : ∃ q, p = (E.I ρ i).toNat * 5 + q := ⟨p - (E.I ρ i).toNat * 5, by omega⟩
      obtain ⟨m, hm, _⟩ := hT.1 q (by omega)
      rw [show (E.L ρ l).getD ((E.I ρ i).toNat * 5 + q) (.int 0) = gU (E.L ρ l) ((E.I ρ i).toNat * 5 + q) from rfl, hm] at hb
      simp [tgtBad, U.toL] at hb
theorem t126_get (h : E.B ρ (.fn 126 (.pr l (.fn 9 (.pr l (.int 5))))) = true) (hi : 0 ≤ E.I ρ i) (hl : E.I ρ i < E.I ρ (.fn 9 (.pr l (.int 5)))) : E.I ρ (.fn 9 (.pr (.fn 1 (.pr l (.fn 6 (.pr (.fn 8 (.pr i (.int 5))) (.int 4))))) (.int 2))) ≤ 16 := by
  rw [z126, List.any_eq_false] at h
  rw [tgt_len hi]
  have hlen : ((E.I ρ i).toNat + 1) * 5 ≤ (E.L ρ l).length := row_lt hi hl
  rw [rows_I, Int.toNat_natCast] at h
  rw [rows_I] at hl
  have h5 : (5 : Int).toNat = 5 := rfl
  rw [h5] at h hl
  have hlt : (E.I ρ i).toNat * 5 + 4 < ((E.L ρ l).take ((E.L ρ l).length / 5 * 5)).length := by
    rw [List.length_take]; omega
  have := h _ (List.getElem_mem hlt)
  rw [List.getElem_take] at this
  have e : gU (E.L ρ l) ((E.I ρ i).toNat * 5 + 4) = (E.L ρ l)[(E.I ρ i).toNat * 5 + 4]'(by omega) := by
    rw [gU, List.getD_eq_getElem?_getD, List.getElem?_eq_getElem (by omega)]; rfl
  rw [e]
  unfold tgtBad at this
  simp only [decide_eq_true_eq] at this
  omega
theorem z125' : (E.B ρ (.fn 125 X) = true) = (E.I ρ (.fn 9 (.pr (.fn 1 (.pr X (.int 8))) (.int 12))) ≤ 1000 ∧ E.I ρ (.fn 9 (.pr (.fn 1 (.pr X (.int 9))) (.int 12))) ≤ 1000 ∧ E.I ρ (.fn 9 (.pr (.fn 1 (.pr X (.int 22))) (.int 12))) ≤ 1000 ∧ E.I ρ (.fn 9 (.pr (.fn 1 (.pr X (.int 23))) (.int 12))) ≤ 1000 ∧ E.I ρ (.fn 9 (.pr (.fn 1 (.pr X (.int 29))) (.int 12))) ≤ 1000 ∧ E.I ρ (.fn 9 (.pr (.fn 1 (.pr X (.int 30))) (.int 5))) ≤ 1000 ∧ E.B ρ (.fn 126 (.pr (.fn 1 (.pr X (.int 30))) (.fn 9 (.pr (.fn 1 (.pr X (.int 30))) (.int 5))))) = true ∧ E.I ρ (.fn 9 (.pr (.fn 1 (.pr X (.int 31))) (.int 5))) ≤ 1000 ∧ E.B ρ (.fn 126 (.pr (.fn 1 (.pr X (.int 31))) (.fn 9 (.pr (.fn 1 (.pr X (.int 31))) (.int 5))))) = true ∧ E.I ρ (.fn 0 (.fn 1 (.pr X (.int 32)))) ≤ 1000 ∧ E.I ρ (.fn 9 (.pr (.fn 1 (.pr X (.int 33))) (.int 2))) ≤ 1000 ∧ E.I ρ (.fn 9 (.pr (.fn 1 (.pr X (.int 42))) (.int 3))) ≤ 20) := by
  apply propext
  have e8 : E.I ρ (.fn 9 (.pr (.fn 1 (.pr X (.int 8))) (.int 12))) = (((gU (E.L ρ X) 8).toL.length / 12 : Nat) : Int) := rfl
  have e9 : E.I ρ (.fn 9 (.pr (.fn 1 (.pr X (.int 9))) (.int 12))) = (((gU (E.L ρ X) 9).toL.length / 12 : Nat) : Int) := rfl
  have e22 : E.I ρ (.fn 9 (.pr (.fn 1 (.pr X (.int 22))) (.int 12))) = (((gU (E.L ρ X) 22).toL.length / 12 : Nat) : Int) := rfl
  have e23 : E.I ρ (.fn 9 (.pr (.fn 1 (.pr X (.int 23))) (.int 12))) = (((gU (E.L ρ X) 23).toL.length / 12 : Nat) : Int) := rfl
  have e29 : E.I ρ (.fn 9 (.pr (.fn 1 (.pr X (.int 29))) (.int 12))) = (((gU (E.L ρ X) 29).toL.length / 12 : Nat) : Int) := rfl
  have e30 : E.I ρ (.fn 9 (.pr (.fn 1 (.pr X (.int 30))) (.int 5))) = (((gU (E.L ρ X) 30).toL.length / 5 : Nat) : Int) := rfl
  have q30 : (E.B ρ (.fn 126 (.pr (.fn 1 (.pr X (.int 30))) (.fn 9 (.pr (.fn 1 (.pr X (.int 30))) (.int 5))))) = true) = (((gU (E.L ρ X) 30).toL.take ((gU (E.L ρ X) 30).toL.length / 5 * 5)).any tgtBad = false) := z126
  have e31 : E.I ρ (.fn 9 (.pr (.fn 1 (.pr X (.int 31))) (.int 5))) = (((gU (E.L ρ X) 31).toL.length / 5 : Nat) : Int) := rfl
  have q31 : (E.B ρ (.fn 126 (.pr (.fn 1 (.pr X (.int 31))) (.fn 9 (.pr (.fn 1 (.pr X (.int 31))) (.int 5))))) = true) = (((gU (E.L ρ X) 31).toL.take ((gU (E.L ρ X) 31).toL.length / 5 * 5)).any tgtBad = false) := z126
  have e32 : E.I ρ (.fn 0 (.fn 1 (.pr X (.int 32)))) = (((gU (E.L ρ X) 32).toL.length : Nat) : Int) := rfl
  have e33 : E.I ρ (.fn 9 (.pr (.fn 1 (.pr X (.int 33))) (.int 2))) = (((gU (E.L ρ X) 33).toL.length / 2 : Nat) : Int) := rfl
  have e42 : E.I ρ (.fn 9 (.pr (.fn 1 (.pr X (.int 42))) (.int 3))) = (((gU (E.L ρ X) 42).toL.length / 3 : Nat) : Int) := rfl
  rw [z125, e8, e9, e22, e23, e29, e30, q30, e31, q31, e32, e33, e42, viewB43, viewB42, viewB33]
  simp only [sizeK, Bool.false_or, Bool.or_false, Bool.or_eq_false_iff, decide_eq_false_iff_not, and_assoc, Nat.div_one]
  refine and_congr (by omega) ?_
  refine and_congr (by omega) ?_
  refine and_congr (by omega) ?_
  refine and_congr (by omega) ?_
  refine and_congr (by omega) ?_
  refine and_congr (by omega) ?_
  refine and_congr Iff.rfl ?_
  refine and_congr (by omega) ?_
  refine and_congr Iff.rfl ?_
  refine and_congr (by omega) ?_
  refine and_congr (by omega) ?_
  omega
end
end Go.SX


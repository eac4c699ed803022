/-
  Piles of ids, as the executor speaks of them.
-/
import Derived.Test.YtfifefjbckmfeaaSXe
set_option linter.unusedVariables false
set_option linter.unusedSimpArgs false
namespace Go.SX
/-! ### A pile of ids -/
noncomputable def ints (ρ : Env) (e : E) : List Int := (E.L ρ e).map U.toI
theorem toIs_ints (ρ : Env) (e : E) : toIs (E.den ρ e) = ints ρ e := rfl
section
variable {ρ : Env} {x y z m n n' i j ev id a b r l : E}
theorem ints_app : ints ρ (.fn 3 (.pr a b)) = ints ρ a ++ ints ρ b := by
  show ((E.L ρ a ++ E.L ρ b).map U.toI) = _
  rw [List.map_append]; rfl
theorem ints_cons : ints ρ (.fn 23 (.pr x r)) = E.I ρ x :: ints ρ r := rfl
theorem ints_nil : ints ρ (.fn 10 a) = [] := rfl
theorem ints_sub0 : ints ρ (.fn 4 (.pr l (.pr (.int 0) (.int 0)))) = [] := by
  show (((E.L ρ l).take _).drop _).map U.toI = []
  simp [E.den, U.fst, U.snd, U.toI]
theorem ints_len : ((ints ρ l).length : Int) = E.I ρ (.fn 0 l) := by
  show (((E.L ρ l).map U.toI).length : Int) = ((E.L ρ l).length : Int)
  simp
theorem I_nth : E.I ρ (.fn 1 (.pr l i)) = (ints ρ l).getD (E.I ρ i).toNat 0 := by
  show ((E.L ρ l).getD (E.I ρ i).toNat (.int 0)).toI = ((E.L ρ l).map U.toI).getD (E.I ρ i).toNat 0
  simp only [List.getD_eq_getElem?_getD, List.getElem?_map]
  cases (E.L ρ l)[(E.I ρ i).toNat]? <;> rfl
theorem z100 : (E.B ρ (.fn 100 (.pr x (.pr n ev))) = true) = (ints ρ x = mList (E.I ρ ev) (E.I ρ n).toNat) := by
  show ((ints ρ x == mList (E.I ρ ev) (E.I ρ n).toNat) = true) = _
  simp
theorem z101 : (E.B ρ (.fn 101 (.pr m n)) = true) = ((E.L ρ m).length = (E.I ρ n).toNat ∧ mapChk 0 (E.L ρ m) = true) := by
  show (((E.L ρ m).length == (E.I ρ n).toNat && mapChk 0 (E.L ρ m)) = true) = _
  simp
theorem z103 : (E.B ρ (.fn 103 (.pr x (.pr n id))) = true) = ((E.I ρ n).toNat ≤ (ints ρ x).length ∧ (ints ρ x).getD ((E.I ρ n).toNat - 1) 0 = E.I ρ id ∧ ¬ E.I ρ id ∈ (ints ρ x).take ((E.I ρ n).toNat - 1)) := by
  show ((decide ((E.I ρ n).toNat ≤ (ints ρ x).length) && (ints ρ x).getD ((E.I ρ n).toNat - 1) 0 == E.I ρ id && !(((ints ρ x).take ((E.I ρ n).toNat - 1)).contains (E.I ρ id))) = true) = _
  simp [and_assoc]
theorem z104 : (E.B ρ (.fn 104 (.pr m (.pr y i))) = true) = (∀ k ∈ (ints ρ y).take (E.I ρ i).toNat, mfindI k (E.L ρ m) = 0) := by
  show (((ints ρ y).take (E.I ρ i).toNat).all (fun k => mfindI k (E.L ρ m) == 0) = true) = _
  simp [List.all_eq_true]
theorem z105 : (E.B ρ (.fn 105 (.pr z (.pr y i))) = true) = (ints ρ z = ((ints ρ y).drop (E.I ρ i).toNat).reverse) := by
  show ((ints ρ z == ((ints ρ y).drop (E.I ρ i).toNat).reverse) = true) = _
  simp
theorem z106 : (E.B ρ (.fn 106 (.pr x y)) = true) = (ints ρ x = ints ρ y) := by
  show ((ints ρ x == ints ρ y) = true) = _
  simp
theorem z107 : (E.B ρ (.fn 107 y) = true) = (∀ k ∈ ints ρ y, 1 ≤ k ∧ k ≤ 4096) := by
  show ((ints ρ y).all (fun k => decide (1 ≤ k ∧ k ≤ 4096)) = true) = _
  simp [List.all_eq_true]
theorem z108 : (E.B ρ (.fn 108 y) = true) = (ints ρ y).Nodup := by
  show (decide (ints ρ y).Nodup = true) = _
  simp
/-! the list of the model -/
theorem mList_len (ev : Int) : ∀ k, (mList ev k).length = k
  | 0 => rfl
  | k + 1 => by
    simp only [mList]
    split <;> simp [mList_len ev k]
theorem mList_mem (ev : Int) : ∀ k (q : Int), q ∈ mList ev k ↔ 1 ≤ q ∧ q ≤ k
  | 0, q => by simp [mList]; omega
  | k + 1, q => by
    simp only [mList]
    split
    · rw [List.mem_cons, mList_mem ev k]; omega
    · rw [List.mem_append, List.mem_singleton, mList_mem ev k]; omega
theorem mList_nodup (ev : Int) : ∀ k, (mList ev k).Nodup
  | 0 => List.nodup_nil
  | k + 1 => by
    simp only [mList]
    split
    · refine List.nodup_cons.2 ⟨fun h => ?_, mList_nodup ev k⟩
      have := (mList_mem ev k _).1 h; omega
    · refine List.nodup_append.2 ⟨mList_nodup ev k, by simp, fun a ha b hb => ?_⟩
      rw [List.mem_singleton] at hb; subst hb
      have := (mList_mem ev k _).1 ha; omega
theorem t100_top (h : E.B ρ (.fn 100 (.pr x (.pr n ev))) = true) (hx : ints ρ y = ints ρ x ++ [E.I ρ id]) (h0 : 0 ≤ E.I ρ n) (hid : E.I ρ id = E.I ρ n + 1) (hn : E.I ρ n' = E.I ρ n + 1) (hr : ¬ Int.tmod (E.I ρ id) (E.I ρ ev) = 0) :
    E.B ρ (.fn 100 (.pr y (.pr n' ev))) = true := by
  rw [z100] at h ⊢
  rw [hx, h, hn]
  obtain ⟨k, hk⟩ := Int.eq_ofNat_of_zero_le h0
  have e1 : (E.I ρ n).toNat = k := by omega
  have e2 : (E.I ρ n + 1).toNat = k + 1 := by omega
  have e3 : E.I ρ id = (k : Int) + 1 := by omega
  rw [e1, e2, e3]
  rw [e3] at hr
  simp only [mList]
  rw [show (Int.tmod ((k : Int) + 1) (E.I ρ ev) == 0) = false by simpa using hr]
theorem t100_under (h : E.B ρ (.fn 100 (.pr x (.pr n ev))) = true) (hx : ints ρ y = E.I ρ id :: ints ρ x) (h0 : 0 ≤ E.I ρ n) (hid : E.I ρ id = E.I ρ n + 1) (hn : E.I ρ n' = E.I ρ n + 1) (hr : Int.tmod (E.I ρ id) (E.I ρ ev) = 0) :
    E.B ρ (.fn 100 (.pr y (.pr n' ev))) = true := by
  rw [z100] at h ⊢
  rw [hx, h, hn]
  obtain ⟨k, hk⟩ := Int.eq_ofNat_of_zero_le h0
  have e1 : (E.I ρ n).toNat = k := by omega
  have e2 : (E.I ρ n + 1).toNat = k + 1 := by omega
  have e3 : E.I ρ id = (k : Int) + 1 := by omega
  rw [e1, e2, e3]
  rw [e3] at hr
  simp only [mList]
  rw [show (Int.tmod ((k : Int) + 1) (E.I ρ ev) == 0) = true by simpa using hr]
theorem t100_one (hx : ints ρ y = [1]) (hn : E.I ρ n = 1) : E.B ρ (.fn 100 (.pr y (.pr n ev))) = true := by
  rw [z100, hx, hn]
  show _ = mList _ 1
  simp only [mList]
  split <;> rfl
theorem t100_two (hx : ints ρ y = [2, 1]) (hn : E.I ρ n = 2) (hr : Int.tmod 2 (E.I ρ ev) = 0) : E.B ρ (.fn 100 (.pr y (.pr n ev))) = true := by
  rw [z100, hx, hn]
  show _ = mList _ 2
  simp only [mList]
  rw [show (Int.tmod (((1 : Nat) : Int) + 1) (E.I ρ ev) == 0) = true by simpa using hr]
  cases (Int.tmod (((0 : Nat) : Int) + 1) (E.I ρ ev) == 0) <;> rfl
theorem t100_two' (hx : ints ρ y = [1, 2]) (hn : E.I ρ n = 2) (hr : ¬ Int.tmod 2 (E.I ρ ev) = 0) : E.B ρ (.fn 100 (.pr y (.pr n ev))) = true := by
  rw [z100, hx, hn]
  show _ = mList _ 2
  simp only [mList]
  rw [show (Int.tmod (((1 : Nat) : Int) + 1) (E.I ρ ev) == 0) = false by simpa using hr]
  cases (Int.tmod (((0 : Nat) : Int) + 1) (E.I ρ ev) == 0) <;> rfl
theorem t100_len (h : E.B ρ (.fn 100 (.pr x (.pr n ev))) = true) (h0 : 0 ≤ E.I ρ n) : E.I ρ (.fn 0 x) = E.I ρ n := by
  rw [z100] at h
  rw [← ints_len, h, mList_len]; omega
theorem t106_of (h : E.B ρ (.fn 100 (.pr x (.pr n ev))) = true) (h' : E.B ρ (.fn 100 (.pr y (.pr n ev))) = true) : E.B ρ (.fn 106 (.pr x y)) = true := by
  rw [z100] at h h'; rw [z106, h, h']
theorem t106_lit (h : ints ρ x = ints ρ y) : E.B ρ (.fn 106 (.pr x y)) = true := by rw [z106]; exact h
theorem t107_of (h : E.B ρ (.fn 100 (.pr x (.pr n ev))) = true) (h1 : E.I ρ n ≤ 4096) : E.B ρ (.fn 107 x) = true := by
  rw [z100] at h; rw [z107, h]
  intro k hk
  have := (mList_mem _ _ _).1 hk; omega
theorem t108_of (h : E.B ρ (.fn 100 (.pr x (.pr n ev))) = true) : E.B ρ (.fn 108 x) = true := by
  rw [z100] at h; rw [z108, h]; exact mList_nodup _ _
/-! the map -/
theorem isPair_eq {u : U} {k v : Int} (h : isPair u k v = true) : u = .lst [.int k, .int v] := by
  unfold isPair at h
  split at h
  · simp only [Bool.and_eq_true, beq_iff_eq] at h
    rw [h.1, h.2]
  · cases h
theorem mfind_cons (k : Int) (u : U) (l : List U) : mfind k (u :: l) = if u.fst.toI = k then some u.snd else mfind k l := rfl
theorem mapChk_find : ∀ (l : List U) (c k : Int), mapChk c l = true → mfind k l = if c < k ∧ k ≤ c + l.length then some (.int 0) else none
  | [], c, k, _ => by
    rw [if_neg (by simp only [List.length_nil]; omega)]; rfl
  | u :: l, c, k, h => by
    simp only [mapChk, Bool.and_eq_true] at h
    have hu := isPair_eq h.1
    have hf : u.fst.toI = c + 1 := by rw [hu]; rfl
    have hs : u.snd = .int 0 := by rw [hu]; rfl
    have ih := mapChk_find l (c + 1) k h.2
    rw [mfind_cons]
    by_cases e : c + 1 = k
    · rw [if_pos (by rw [hf]; exact e), if_pos (by simp; omega), hs]
    · rw [if_neg (by rw [hf]; exact e), ih]
      simp only [List.length_cons]
      by_cases hk : c + 1 < k ∧ k ≤ c + 1 + l.length
      · rw [if_pos hk, if_pos (by omega)]
      · rw [if_neg hk, if_neg (by omega)]
theorem mapChk_put : ∀ (l : List U) (c k : Int), mapChk c l = true → k = c + l.length + 1 → mapChk c (mput k (.int 0) l) = true ∧ (mput k (.int 0) l).length = l.length + 1
  | [], c, k, _, hk => by
    simp only [List.length_nil, Int.natCast_zero, Int.add_zero] at hk
    subst hk
    simp [mput, mapChk, isPair]
  | u :: l, c, k, h, hk => by
    simp only [mapChk, Bool.and_eq_true] at h
    have hu := isPair_eq h.1
    have ih := mapChk_put l (c + 1) k h.2 (by simp at hk ⊢; omega)
    have hne : ¬ (u.fst.toI = k) := by rw [hu]; simp [U.fst, U.toI] at hk ⊢; omega
    simp only [mput, if_neg hne, mapChk, h.1, ih.1, Bool.true_and, List.length_cons, ih.2, and_self]
theorem I_has : (E.B ρ (.fn 33 (.pr m id)) = true) = ((mfind (E.I ρ id) (E.L ρ m)).isSome = true) := rfl
theorem I_get0 : E.I ρ (.fn 32 (.pr m (.pr id (.int 0)))) = ((mfind (E.I ρ id) (E.L ρ m)).getD (.int 0)).toI := rfl
theorem L_put : E.L ρ (.fn 34 (.pr m (.pr id b))) = mput (E.I ρ id) (E.den ρ b) (E.L ρ m) := rfl
theorem L_del : E.L ρ (.fn 35 (.pr m id)) = mdel (E.I ρ id) (E.L ρ m) := rfl
theorem t101_put (h : E.B ρ (.fn 101 (.pr m n)) = true) (h0 : 0 ≤ E.I ρ n) (hid : E.I ρ id = E.I ρ n + 1) (hn : E.I ρ n' = E.I ρ n + 1) : E.B ρ (.fn 101 (.pr (.fn 34 (.pr m (.pr id (.int 0)))) n')) = true := by
  rw [z101] at h ⊢
  obtain ⟨h1, h2⟩ := h
  obtain ⟨g1, g2⟩ := mapChk_put (E.L ρ m) 0 (E.I ρ id) h2 (by omega)
  have e : E.L ρ (.fn 34 (.pr m (.pr id (.int 0)))) = mput (E.I ρ id) (.int 0) (E.L ρ m) := rfl
  rw [e]
  exact ⟨by rw [g2]; omega, g1⟩
theorem t101_no (h : E.B ρ (.fn 101 (.pr m n)) = true) (h0 : 0 ≤ E.I ρ n) (hid : E.I ρ id = E.I ρ n + 1) : ¬ E.B ρ (.fn 33 (.pr m id)) = true := by
  rw [z101] at h
  rw [I_has, mapChk_find _ 0 _ h.2, if_neg (by omega)]
  simp
theorem t104_of (h : E.B ρ (.fn 101 (.pr m n)) = true) (h' : E.B ρ (.fn 100 (.pr y (.pr n ev))) = true) (h0 : 0 ≤ E.I ρ n) : E.B ρ (.fn 104 (.pr m (.pr y n))) = true := by
  rw [z101] at h
  rw [z100] at h'
  rw [z104]
  intro k hk
  have h2 := List.mem_of_mem_take hk
  rw [h'] at h2
  have h3 := (mList_mem _ _ _).1 h2
  unfold mfindI
  rw [mapChk_find _ 0 _ h.2, if_pos (by omega)]
  rfl
theorem nth_mem_take {l : List Int} {k c : Nat} (h : k < c) (hl : k < l.length) : l.getD k 0 ∈ l.take c := by
  rw [List.getD_eq_getElem?_getD, List.getElem?_eq_getElem hl, Option.getD_some]
  exact List.mem_take_iff_getElem.2 ⟨k, by omega, rfl⟩
theorem mfindI_some {k : Int} {m : List U} (h : mfindI k m = 0) : ∃ u, mfind k m = some u ∧ u.toI = 0 := by
  unfold mfindI at h
  split at h
  · rename_i u hu; exact ⟨u, hu, h⟩
  · omega
theorem t33 (h : E.B ρ (.fn 104 (.pr m (.pr y j))) = true) (h0 : 0 ≤ E.I ρ i) (h1 : E.I ρ i < E.I ρ j) (h2 : E.I ρ i < E.I ρ (.fn 0 y)) : E.B ρ (.fn 33 (.pr m (.fn 1 (.pr y i)))) = true := by
  rw [z104] at h
  rw [← ints_len] at h2
  obtain ⟨u, hu, _⟩ := mfindI_some (h _ (nth_mem_take (k := (E.I ρ i).toNat) (by omega) (by omega)))
  rw [I_has, I_nth, hu]; rfl
theorem t32 (h : E.B ρ (.fn 104 (.pr m (.pr y j))) = true) (h0 : 0 ≤ E.I ρ i) (h1 : E.I ρ i < E.I ρ j) (h2 : E.I ρ i < E.I ρ (.fn 0 y)) : E.I ρ (.fn 32 (.pr m (.pr (.fn 1 (.pr y i)) (.int 0)))) = 0 := by
  rw [z104] at h
  rw [← ints_len] at h2
  obtain ⟨u, hu, h3⟩ := mfindI_some (h _ (nth_mem_take (k := (E.I ρ i).toNat) (by omega) (by omega)))
  rw [I_get0, I_nth, hu]; exact h3
theorem t107_nth (h : E.B ρ (.fn 107 y) = true) (h0 : 0 ≤ E.I ρ i) (h2 : E.I ρ i < E.I ρ (.fn 0 y)) : 1 ≤ E.I ρ (.fn 1 (.pr y i)) ∧ E.I ρ (.fn 1 (.pr y i)) ≤ 4096 := by
  rw [z107] at h
  rw [← ints_len] at h2
  rw [I_nth]
  refine h _ ?_
  rw [List.getD_eq_getElem?_getD, List.getElem?_eq_getElem (by omega), Option.getD_some]
  exact List.getElem_mem _
theorem t106_nth (h : E.B ρ (.fn 106 (.pr x y)) = true) (e : E.I ρ i = E.I ρ j) : E.I ρ (.fn 1 (.pr x i)) = E.I ρ (.fn 1 (.pr y j)) := by
  rw [z106] at h
  rw [I_nth, I_nth, h, e]
theorem t103_of (h : E.B ρ (.fn 106 (.pr x y)) = true) (h' : E.B ρ (.fn 108 y) = true) (h0 : 0 ≤ E.I ρ i) (hi : E.I ρ n = E.I ρ i + 1) (h2 : E.I ρ i < E.I ρ (.fn 0 y)) : E.B ρ (.fn 103 (.pr x (.pr n (.fn 1 (.pr y i))))) = true := by
  rw [z106] at h
  rw [z108] at h'
  rw [← ints_len] at h2
  rw [z103, h, I_nth]
  have e : (E.I ρ n).toNat - 1 = (E.I ρ i).toNat := by omega
  rw [e]
  refine ⟨by omega, rfl, fun hm => ?_⟩
  rw [List.getD_eq_getElem?_getD, List.getElem?_eq_getElem (by omega), Option.getD_some] at hm
  obtain ⟨k, hk, e2⟩ := List.mem_take_iff_getElem.1 hm
  have := (List.getElem_inj h').1 e2
  omega
theorem t103_one (hx : ints ρ x = [1]) (hn : E.I ρ n = 1) (hid : E.I ρ id = 1) : E.B ρ (.fn 103 (.pr x (.pr n id))) = true := by
  rw [z103, hx, hn, hid]
  simp
/-! slices.Index -/
theorem t103_at (h : E.B ρ (.fn 103 (.pr x (.pr n id))) = true) (h0 : 0 ≤ E.I ρ i) (hi : E.I ρ i < E.I ρ n) : (E.I ρ id = E.I ρ (.fn 1 (.pr x i)) ↔ E.I ρ i = E.I ρ n - 1) := by
  rw [z103] at h
  obtain ⟨hl, h1, h2⟩ := h
  rw [I_nth]
  constructor
  · intro e
    by_cases hk : E.I ρ i = E.I ρ n - 1
    · exact hk
    · exact absurd (by rw [e]; exact nth_mem_take (by omega) (by omega)) h2
  · intro e
    rw [← h1]
    have e2 : (E.I ρ n).toNat - 1 = (E.I ρ i).toNat := by omega
    rw [e2]
theorem cs_rem (a b : Int) : ∃ r, a.tmod b = r ∧ (0 ≤ a → 0 < b → 0 ≤ r ∧ r < b) :=
  ⟨a.tmod b, rfl, fun ha hb => ⟨Int.tmod_nonneg _ ha, Int.tmod_lt_of_pos _ hb⟩⟩
theorem rem_one {x : Int} (h0 : 1 ≤ x) (h1 : x ≤ 9) : Int.tmod 1 x = 0 → x = 1 := by
  intro h
  have : x = 1 ∨ x = 2 ∨ x = 3 ∨ x = 4 ∨ x = 5 ∨ x = 6 ∨ x = 7 ∨ x = 8 ∨ x = 9 := by omega
  rcases this with rfl | rfl | rfl | rfl | rfl | rfl | rfl | rfl | rfl <;> first | rfl | (exfalso; revert h; decide)
/-! a list the other way round -/
theorem drop_nth {l : List Int} {k : Nat} (h : k < l.length) : l.drop k = l.getD k 0 :: l.drop (k + 1) := by
  rw [List.drop_eq_getElem_cons h, List.getD_eq_getElem?_getD, List.getElem?_eq_getElem h, Option.getD_some]
theorem t105_step (h : E.B ρ (.fn 105 (.pr z (.pr y j))) = true) (hx : ints ρ x = ints ρ z ++ [E.I ρ (.fn 1 (.pr y i))]) (h0 : 0 ≤ E.I ρ i) (hj : E.I ρ j = E.I ρ i + 1) (hn : E.I ρ n = E.I ρ i) (hl : E.I ρ i < E.I ρ (.fn 0 y)) :
    E.B ρ (.fn 105 (.pr x (.pr y n))) = true := by
  rw [z105] at h ⊢
  rw [← ints_len] at hl
  rw [hx, h, I_nth, hn, drop_nth (k := (E.I ρ i).toNat) (by omega)]
  have e : (E.I ρ j).toNat = (E.I ρ i).toNat + 1 := by omega
  rw [e, List.reverse_cons]
theorem t105_first (hx : ints ρ x = [E.I ρ (.fn 1 (.pr y i))]) (h0 : 0 ≤ E.I ρ i) (hn : E.I ρ n = E.I ρ i) (hl : E.I ρ i + 1 = E.I ρ (.fn 0 y)) : E.B ρ (.fn 105 (.pr x (.pr y n))) = true := by
  rw [z105]
  rw [← ints_len] at hl
  rw [hx, I_nth, hn, drop_nth (k := (E.I ρ i).toNat) (by omega), List.drop_eq_nil_of_le (by omega)]
  rfl
theorem t105_congr (h : E.B ρ (.fn 105 (.pr z (.pr y j))) = true) (e : E.I ρ j = E.I ρ i) : E.B ρ (.fn 105 (.pr z (.pr y i))) = true := by
  rw [z105] at h ⊢; rw [h, e]
theorem t106_rev (h : E.B ρ (.fn 105 (.pr z (.pr y j))) = true) (h' : E.B ρ (.fn 105 (.pr x (.pr y i))) = true) (e : E.I ρ j = E.I ρ i) : E.B ρ (.fn 106 (.pr z x)) = true := by
  rw [z105] at h h'; rw [z106, h, h', e]
theorem mfind_del {k k' : Int} (hne : k' ≠ k) : ∀ l : List U, mfind k' (mdel k l) = mfind k' l
  | [] => rfl
  | u :: l => by
    simp only [mdel]
    split
    · rename_i h; rw [mfind_cons, if_neg (by omega)]
    · rw [mfind_cons, mfind_cons, mfind_del hne l]
theorem mfind_put {k k' : Int} {v : U} (hne : k' ≠ k) : ∀ l : List U, mfind k' (mput k v l) = mfind k' l
  | [] => by
    have hf : (U.lst [.int k, v]).fst.toI = k := rfl
    simp only [mput]; rw [mfind_cons, if_neg (by omega)]
  | u :: l => by
    have hf : (U.lst [.int k, v]).fst.toI = k := rfl
    simp only [mput]
    split
    · rename_i h; rw [mfind_cons, mfind_cons, if_neg (by omega), if_neg (by omega)]
    · rw [mfind_cons, mfind_cons, mfind_put hne l]
theorem t104_step (h : E.B ρ (.fn 104 (.pr m (.pr y j))) = true) (h' : E.B ρ (.fn 108 y) = true) (h0 : 0 ≤ E.I ρ i) (hj : E.I ρ j = E.I ρ i + 1) (hn : E.I ρ n = E.I ρ i) (hl : E.I ρ i < E.I ρ (.fn 0 y)) :
    E.B ρ (.fn 104 (.pr (.fn 34 (.pr (.fn 35 (.pr m (.fn 1 (.pr y i)))) (.pr (.fn 1 (.pr y i)) b))) (.pr y n))) = true := by
  rw [z104] at h ⊢
  rw [z108] at h'
  rw [← ints_len] at hl
  intro k hk
  rw [hn] at hk
  have hne : k ≠ E.I ρ (.fn 1 (.pr y i)) := by
    rintro rfl
    rw [I_nth, List.getD_eq_getElem?_getD, List.getElem?_eq_getElem (by omega), Option.getD_some] at hk
    obtain ⟨q, hq, e2⟩ := List.mem_take_iff_getElem.1 hk
    have := (List.getElem_inj h').1 e2
    omega
  have h1 := h k (by
    obtain ⟨q, hq, e2⟩ := List.mem_take_iff_getElem.1 hk
    exact List.mem_take_iff_getElem.2 ⟨q, by omega, e2⟩)
  unfold mfindI at h1 ⊢
  rw [L_put, L_del, mfind_put hne, mfind_del hne]
  exact h1
theorem t104_none (hn : E.I ρ n ≤ 0) : E.B ρ (.fn 104 (.pr m (.pr y n))) = true := by
  rw [z104]
  have : (E.I ρ n).toNat = 0 := by omega
  rw [this]
  intro k hk
  simp at hk
end
end Go.SX


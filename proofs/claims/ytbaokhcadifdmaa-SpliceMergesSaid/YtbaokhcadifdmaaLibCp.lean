/- Plain facts on lists: how much two lists begin alike ('cp'). No program in sight. -/
namespace Go.Proofs.YtbaokhcadifdmaaW.Plain
/-- How many elements two lists begin alike. -/
def cp : List Int → List Int → Nat
  | x :: xs, y :: ys => if x = y then cp xs ys + 1 else 0
  | _, _ => 0
theorem cp_le : ∀ a b : List Int, cp a b ≤ a.length ∧ cp a b ≤ b.length
  | [], b => by simp [cp]
  | x :: xs, [] => by simp [cp]
  | x :: xs, y :: ys => by
    have h := cp_le xs ys
    simp only [cp, List.length_cons]
    split <;> omega
theorem cp_take : ∀ a b : List Int, a.take (cp a b) = b.take (cp a b)
  | [], b => by simp [cp]
  | x :: xs, [] => by simp [cp]
  | x :: xs, y :: ys => by
    simp only [cp]
    split
    · rename_i h
      simp [h, cp_take xs ys]
    · simp
theorem cp_max : ∀ (a b : List Int) (j : Nat), j ≤ a.length → j ≤ b.length → a.take j = b.take j → j ≤ cp a b
  | [], b, j, h, _, _ => by simp at h; omega
  | x :: xs, [], j, _, h, _ => by simp at h; omega
  | x :: xs, y :: ys, 0, _, _, _ => Nat.zero_le _
  | x :: xs, y :: ys, j + 1, h1, h2, h => by
    simp only [List.take_succ_cons, List.cons.injEq] at h
    simp only [List.length_cons] at h1 h2
    have := cp_max xs ys j (by omega) (by omega) h.2
    simp only [cp, h.1, if_true]
    omega
theorem cp_ne : ∀ (a b : List Int), cp a b < a.length → cp a b < b.length → a.getD (cp a b) 0 ≠ b.getD (cp a b) 0
  | [], b, h, _ => by simp at h
  | x :: xs, [], _, h => by simp at h
  | x :: xs, y :: ys, h1, h2 => by
    simp only [cp] at h1 h2 ⊢
    split
    · rename_i h
      rw [if_pos h] at h1 h2
      simp only [List.length_cons] at h1 h2
      have := cp_ne xs ys (by omega) (by omega)
      simpa using this
    · rename_i h
      simpa using h
theorem cp_eq (a b : List Int) (i : Nat) (hi : i < cp a b) : a.getD i 0 = b.getD i 0 := by
  have h := cp_take a b
  have h2 := congrArg (fun l : List Int => l.getD i 0) h
  simp only [List.getD_eq_getElem?_getD, List.getElem?_take, if_pos hi] at h2
  simpa [List.getD_eq_getElem?_getD] using h2
theorem cp_self : ∀ a : List Int, cp a a = a.length
  | [] => rfl
  | x :: xs => by simp [cp, cp_self xs]
theorem cp_append (h a b : List Int) : h.length ≤ cp (h ++ a) (h ++ b) :=
  cp_max _ _ _ (by simp) (by simp) (by simp)
theorem rev_getD (a : List Int) (j : Nat) (h : j < a.length) : a.reverse.getD j 0 = a.getD (a.length - 1 - j) 0 := by
  simp only [List.getD_eq_getElem?_getD, List.getElem?_reverse h]
theorem rev_take (a : List Int) (m : Nat) (_ : m ≤ a.length) : a.drop (a.length - m) = (a.reverse.take m).reverse := by
  rw [List.take_reverse, List.reverse_reverse]
/-- How many elements two lists end alike. -/
def cs (a b : List Int) : Nat := cp a.reverse b.reverse
theorem cs_le (a b : List Int) : cs a b ≤ a.length ∧ cs a b ≤ b.length := by
  have := cp_le a.reverse b.reverse
  simpa [cs] using this
theorem cs_drop (a b : List Int) : a.drop (a.length - cs a b) = b.drop (b.length - cs a b) := by
  rw [rev_take a _ (cs_le a b).1, rev_take b _ (cs_le a b).2]
  have := cp_take a.reverse b.reverse
  unfold cs
  rw [this]
theorem cs_max (a b : List Int) (m : Nat) (h1 : m ≤ a.length) (h2 : m ≤ b.length) (h : a.drop (a.length - m) = b.drop (b.length - m)) : m ≤ cs a b := by
  rw [rev_take a _ h1, rev_take b _ h2] at h
  exact cp_max _ _ _ (by simpa using h1) (by simpa using h2) (List.reverse_inj.1 h)
theorem cs_eq (a b : List Int) (j : Nat) (hj : j < cs a b) : a.getD (a.length - 1 - j) 0 = b.getD (b.length - 1 - j) 0 := by
  have h := cs_le a b
  have := cp_eq a.reverse b.reverse j hj
  rwa [rev_getD a j (by omega), rev_getD b j (by omega)] at this
theorem cs_ne (a b : List Int) (h1 : cs a b < a.length) (h2 : cs a b < b.length) : a.getD (a.length - 1 - cs a b) 0 ≠ b.getD (b.length - 1 - cs a b) 0 := by
  have := cp_ne a.reverse b.reverse (by simpa [cs] using h1) (by simpa [cs] using h2)
  rwa [show cp a.reverse b.reverse = cs a b from rfl, rev_getD a _ h1, rev_getD b _ h2] at this
/-- What is alike at the end of the whole is so behind a cut, as far as it reaches. -/
theorem cs_cut (x y : List Int) (n t : Nat) (hx : t ≤ x.length - n) (hy : t ≤ y.length - n) (h : x.drop (x.length - t) = y.drop (y.length - t)) : t ≤ cs (x.drop n) (y.drop n) := by
  refine cs_max _ _ _ (by simpa using hx) (by simpa using hy) ?_
  rw [List.drop_drop, List.drop_drop, List.length_drop, List.length_drop]
  by_cases h0 : t = 0
  · subst h0
    rw [List.drop_eq_nil_of_le (by omega), List.drop_eq_nil_of_le (by omega)]
  · rw [show n + (x.length - n - t) = x.length - t by omega, show n + (y.length - n - t) = y.length - t by omega]
    exact h
end Go.Proofs.YtbaokhcadifdmaaW.Plain

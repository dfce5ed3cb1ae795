/- What the printed functions Copy, Cut, Same and Common (of bytes) come to, in plain words. -/
import Derived.Test.YtbaokhcadifdmaaPAllF13
import Derived.Test.YtbaokhcadifdmaaPAllF12
import Derived.Test.YtbaokhcadifdmaaPAllF14
import Derived.Test.YtbaokhcadifdmaaPAllF15
import Derived.Test.YtbaokhcadifdmaaLibCp
namespace Go.Proofs.Ytbaokhcadifdmaa.Pure
open Go.RowKit Go.Proofs.Ytbaokhcadifdmaa.PAll Go.Proofs.YtbaokhcadifdmaaW.PrintWords Go.Proofs.YtbaokhcadifdmaaW.PrintLast Go.Proofs.YtbaokhcadifdmaaW.PrintMore Go.Proofs.YtbaokhcadifdmaaW.Plain

theorem w64 {x : Int} (h0 : -9223372036854775808 ≤ x) (h1 : x ≤ 9223372036854775807) : wrap64 x = x := by unfold wrap64; omega
theorem mn_eq (a b : Int) : mn a b = min a b := by unfold mn; omega
theorem lt_mn (i a b : Int) : (i < mn a b) ↔ (i < a ∧ i < b) := by
  unfold mn
  split <;> omega
theorem rd_nat (xs : List Int) (j : Nat) : rd xs (j : Int) = xs.getD j 0 := by simp [rd]

theorem copy_some (l : List Int) (h : l.length < 140737488355328) : scholiumkeep_Copy_byte.f l = some l := by
  simp [scholiumkeep_Copy_byte.f, h]
theorem cut_some (l : List Int) (n : Nat) (hn : n < 1000000) : scholiumkeep_Cut_byte.f l (n : Int) = some (l.take n) := by
  unfold scholiumkeep_Cut_byte.f
  rw [mn_eq, if_pos (by omega), if_pos (by omega)]
  have h : (min (l.length : Int) (n : Int)).toNat = min l.length n := by omega
  have h2 : l.take (min l.length n) = l.take n := by
    by_cases hl : l.length ≤ n
    · rw [Nat.min_eq_left hl, List.take_of_length_le (Nat.le_refl _), List.take_of_length_le hl]
    · rw [Nat.min_eq_right (by omega)]
  rw [h, h2, copy_some _ (by rw [List.length_take]; omega)]
  rfl

theorem same_l (a b : List Int) (hl : a.length = b.length) (hb : a.length ≤ 9223372036854775806) : ∀ (d k i : Nat), i + d = a.length → d < k → scholiumkeep_Same_byte.l0 k a b (i : Int) = some (decide (a.drop i = b.drop i)) := by
  intro d
  induction d with
  | zero =>
    intro k i hi hk
    obtain ⟨k, rfl⟩ : ∃ m, k = m + 1 := ⟨k - 1, by omega⟩
    simp only [scholiumkeep_Same_byte.l0]
    rw [if_neg (by omega), List.drop_eq_nil_of_le (by omega), List.drop_eq_nil_of_le (by omega)]
    simp
  | succ d ih =>
    intro k i hi hk
    obtain ⟨k, rfl⟩ : ∃ m, k = m + 1 := ⟨k - 1, by omega⟩
    simp only [scholiumkeep_Same_byte.l0]
    rw [if_pos (by omega), if_pos (by omega), if_pos (by omega), rd_nat, rd_nat]
    have ha : i < a.length := by omega
    have hb' : i < b.length := by omega
    have ea : a.drop i = a.getD i 0 :: a.drop (i + 1) := by
      rw [List.drop_eq_getElem_cons ha, List.getD_eq_getElem?_getD, List.getElem?_eq_getElem ha]; rfl
    have eb : b.drop i = b.getD i 0 :: b.drop (i + 1) := by
      rw [List.drop_eq_getElem_cons hb', List.getD_eq_getElem?_getD, List.getElem?_eq_getElem hb']; rfl
    by_cases e : a.getD i 0 = b.getD i 0
    · rw [if_pos e, w64 (by omega) (by omega), show ((i : Int) + 1) = ((i + 1 : Nat) : Int) by omega, ih k (i + 1) (by omega) (by omega), ea, eb, e]
      simp
    · rw [if_neg e, ea, eb]
      have hne : ¬ (a.getD i 0 :: a.drop (i + 1) = b.getD i 0 :: b.drop (i + 1)) := fun h => e (List.cons.inj h).1
      rw [decide_eq_false hne]
theorem same_some (a b : List Int) (hb : a.length ≤ 9223372036854775806) (k : Nat) (hk : a.length < k) : scholiumkeep_Same_byte.f k a b = some (decide (a = b)) := by
  unfold scholiumkeep_Same_byte.f
  by_cases hl : a.length = b.length
  · rw [if_pos (by omega)]
    have := same_l a b hl hb a.length k 0 (by omega) hk
    simpa using this
  · rw [if_neg (by omega)]
    have : a ≠ b := fun e => hl (by rw [e])
    simp [this]

theorem common_l1 (A B : List Int) (n : Int) (hA : A.length ≤ 1000000000) (hB : B.length ≤ 1000000000) : ∀ (d k j : Nat), j + d = cs A B → d < k → audit_Common.l1 k A B n (j : Int) = some (n, (cs A B : Int)) := by
  have hle := cs_le A B
  intro d
  induction d with
  | zero =>
    intro k j hj hk
    obtain ⟨k, rfl⟩ : ∃ m, k = m + 1 := ⟨k - 1, by omega⟩
    simp only [audit_Common.l1]
    by_cases hm : (j : Int) < mn (A.length : Int) (B.length : Int)
    · have e1 : wrap64 ((A.length : Int) - 1) = (A.length : Int) - 1 := w64 (by omega) (by omega)
      have e2 : wrap64 ((B.length : Int) - 1) = (B.length : Int) - 1 := w64 (by omega) (by omega)
      have hm2 := (lt_mn _ _ _).1 hm
      rw [if_pos hm, e1, e2, w64 (x := (A.length : Int) - 1 - j) (by omega) (by omega), w64 (x := (B.length : Int) - 1 - j) (by omega) (by omega), if_pos (by omega), if_pos (by omega), if_pos (by omega), if_pos (by omega)]
      have hne := cs_ne A B (by omega) (by omega)
      rw [show (A.length : Int) - 1 - (j : Int) = ((A.length - 1 - j : Nat) : Int) by omega, show (B.length : Int) - 1 - (j : Int) = ((B.length - 1 - j : Nat) : Int) by omega, rd_nat, rd_nat]
      obtain rfl : j = cs A B := by omega
      rw [if_neg hne]
    · have hm2 := mt (lt_mn _ _ _).2 hm
      rw [if_neg hm]
      obtain rfl : j = cs A B := by omega
      rfl
  | succ d ih =>
    intro k j hj hk
    obtain ⟨k, rfl⟩ : ∃ m, k = m + 1 := ⟨k - 1, by omega⟩
    simp only [audit_Common.l1]
    have e1 : wrap64 ((A.length : Int) - 1) = (A.length : Int) - 1 := w64 (by omega) (by omega)
    have e2 : wrap64 ((B.length : Int) - 1) = (B.length : Int) - 1 := w64 (by omega) (by omega)
    rw [if_pos ((lt_mn _ _ _).2 ⟨by omega, by omega⟩), e1, e2, w64 (x := (A.length : Int) - 1 - j) (by omega) (by omega), w64 (x := (B.length : Int) - 1 - j) (by omega) (by omega), if_pos (by omega), if_pos (by omega), if_pos (by omega), if_pos (by omega)]
    rw [show (A.length : Int) - 1 - (j : Int) = ((A.length - 1 - j : Nat) : Int) by omega, show (B.length : Int) - 1 - (j : Int) = ((B.length - 1 - j : Nat) : Int) by omega, rd_nat, rd_nat, if_pos (cs_eq A B j (by omega)), w64 (by omega) (by omega), show ((j : Int) + 1) = ((j + 1 : Nat) : Int) by omega]
    exact ih k (j + 1) (by omega) (by omega)
theorem common_l0 (a b : List Int) (hA : a.length ≤ 1000000000) (hB : b.length ≤ 1000000000) : ∀ (d k i : Nat), i + d = cp a b → d + 3 + a.length ≤ k →
    audit_Common.l0 k a b (i : Int) 0 = some ((cp a b : Int), (cs (a.drop (cp a b)) (b.drop (cp a b)) : Int)) := by
  have hle := cp_le a b
  have hj : ∀ k : Nat, a.length + 2 ≤ k → audit_Common.j1 k a b (cp a b : Int) 0 = some ((cp a b : Int), (cs (a.drop (cp a b)) (b.drop (cp a b)) : Int)) := by
    intro k hk
    obtain ⟨k, rfl⟩ : ∃ m, k = m + 1 := ⟨k - 1, by omega⟩
    simp only [audit_Common.j1]
    rw [if_pos (by omega), if_pos (by omega), if_pos (by omega)]
    have hc := cs_le (a.drop (cp a b)) (b.drop (cp a b))
    rw [List.length_drop, List.length_drop] at hc
    have := common_l1 (a.drop (cp a b)) (b.drop (cp a b)) (cp a b : Int) (by rw [List.length_drop]; omega) (by rw [List.length_drop]; omega) (cs (a.drop (cp a b)) (b.drop (cp a b))) k 0 (by omega) (by omega)
    simpa using this
  intro d
  induction d with
  | zero =>
    intro k i hi hk
    obtain ⟨k, rfl⟩ : ∃ m, k = m + 1 := ⟨k - 1, by omega⟩
    have e : i = cp a b := by omega
    simp only [audit_Common.l0]
    by_cases hm : (i : Int) < mn (a.length : Int) (b.length : Int)
    · have hm2 := (lt_mn _ _ _).1 hm
      have hne := cp_ne a b (by omega) (by omega)
      rw [if_pos hm, if_pos (by omega), if_pos (by omega), if_pos (by omega), rd_nat, rd_nat, e, if_neg hne]
      exact hj k (by omega)
    · rw [if_neg hm, e]
      exact hj k (by omega)
  | succ d ih =>
    intro k i hi hk
    obtain ⟨k, rfl⟩ : ∃ m, k = m + 1 := ⟨k - 1, by omega⟩
    simp only [audit_Common.l0]
    rw [if_pos ((lt_mn _ _ _).2 ⟨by omega, by omega⟩), if_pos (by omega), if_pos (by omega), if_pos (by omega), rd_nat, rd_nat, if_pos (cp_eq a b i (by omega)), w64 (by omega) (by omega), show ((i : Int) + 1) = ((i + 1 : Nat) : Int) by omega]
    exact ih k (i + 1) (by omega) (by omega)
theorem common_some (a b : List Int) (hA : a.length ≤ 1000000000) (hB : b.length ≤ 1000000000) (k : Nat) (hk : 2 * a.length + 3 ≤ k) :
    audit_Common.f k a b = some ((cp a b : Int), (cs (a.drop (cp a b)) (b.drop (cp a b)) : Int)) := by
  have hle := cp_le a b
  have := common_l0 a b hA hB (cp a b) k 0 (by omega) (by omega)
  simpa [audit_Common.f] using this
end Go.Proofs.Ytbaokhcadifdmaa.Pure

/- What 'srt' does to Splices whose texts tell them apart: the same ones, in order, those that begin and end alike in their old order. No program in sight. -/
import Derived.Test.YtbaokhcadifdmaaLibIns
set_option linter.unusedVariables false
set_option linter.unusedSimpArgs false
namespace Go.Proofs.Ytbaokhcadifdmaa.Pure
open Go.RowKit Go.Proofs.Ytbaokhcadifdmaa.PAll Go.Proofs.YtbaokhcadifdmaaW.PrintWords

/-- The text of the j-th. -/
def tag (x : S35) : Int := bt x.f2 0
def ordT (a b : S35) : Prop := a.f0 < b.f0 ∨ (a.f0 = b.f0 ∧ (a.f1 < b.f1 ∨ (a.f1 = b.f1 ∧ tag a < tag b)))
theorem cmp3_lt' (a b : Int) : (cmp3 a b < 0 ↔ a < b) ∧ (cmp3 a b = 0 ↔ a = b) := by
  unfold cmp3
  constructor <;> (split <;> first | omega | (split <;> omega))
theorem lt3_iff' (x y : S35) : lt3 x y = true ↔ (x.f0 < y.f0 ∨ (x.f0 = y.f0 ∧ x.f1 < y.f1)) := by
  have h0 := cmp3_lt' x.f0 y.f0
  have h1 := cmp3_lt' x.f1 y.f1
  unfold lt3 cf
  rw [decide_eq_true_iff]
  split <;> omega
theorem stop_le (p : List S35) (x : S35) : ∀ k, stop p x k ≤ k
  | 0 => Nat.le_refl _
  | k + 1 => by
    simp only [stop]
    split
    · exact Nat.le_succ_of_le (stop_le p x k)
    · exact Nat.le_refl _
/-- Behind the place all are above x; the one ahead of it is not. -/
theorem stop_spec (p : List S35) (x : S35) : ∀ k, (∀ i, stop p x k ≤ i → i < k → lt3 x (p.getD i z35) = true) ∧ (0 < stop p x k → lt3 x (p.getD (stop p x k - 1) z35) = false)
  | 0 => ⟨fun i h1 h2 => absurd h2 (by omega), fun h => absurd h (by simp [stop])⟩
  | k + 1 => by
    obtain ⟨h1, h2⟩ := stop_spec p x k
    by_cases hl : lt3 x (p.getD k z35) = true
    · have e : stop p x (k + 1) = stop p x k := by simp only [stop]; rw [if_pos hl]
      rw [e]
      refine ⟨fun i hi hk => ?_, h2⟩
      by_cases hik : i = k
      · rw [hik]; exact hl
      · exact h1 i hi (by omega)
    · have e : stop p x (k + 1) = k + 1 := by simp only [stop]; rw [if_neg hl]
      rw [e]
      refine ⟨fun i hi hk => absurd hk (by omega), fun _ => ?_⟩
      rw [Nat.add_sub_cancel]
      simpa using hl
theorem ordT_trans {a b c : S35} (h1 : ordT a b) (h2 : ordT b c) : ordT a c := by
  unfold ordT at *
  omega
theorem put_ord (p : List S35) (x : S35) (hp : p.Pairwise ordT) (hx : ∀ y ∈ p, tag y < tag x) : (put p x).Pairwise ordT := by
  obtain ⟨h1, h2⟩ := stop_spec p x p.length
  have hle := stop_le p x p.length
  unfold put
  generalize stop p x p.length = k at h1 h2 hle
  have hget : ∀ i, i < p.length → ∀ h : i < p.length, p.getD i z35 = p[i] := fun i _ h => by rw [List.getD_eq_getElem?_getD, List.getElem?_eq_getElem h]; rfl
  have hpw := List.pairwise_iff_getElem.1 hp
  have above : ∀ y ∈ p.drop k, lt3 x y = true := by
    intro y hy
    obtain ⟨i, hi, rfl⟩ := List.mem_iff_getElem.1 hy
    rw [List.getElem_drop]
    rw [List.length_drop] at hi
    rw [← hget (k + i) (by omega) (by omega)]
    exact h1 (k + i) (by omega) (by omega)
  have below : ∀ y ∈ p.take k, ordT y x := by
    intro y hy
    obtain ⟨i, hi, rfl⟩ := List.mem_iff_getElem.1 hy
    rw [List.getElem_take]
    rw [List.length_take] at hi
    have hk : 0 < k := by omega
    have hf := h2 hk
    rw [hget (k - 1) (by omega) (by omega)] at hf
    have hlast : ordT p[k - 1] x := by
      have ht := hx p[k - 1] (List.getElem_mem _)
      have := lt3_iff' x p[k - 1]
      rw [hf] at this
      simp only [Bool.false_eq_true, false_iff] at this
      unfold ordT
      omega
    by_cases hik : i = k - 1
    · subst hik; exact hlast
    · exact ordT_trans (hpw i (k - 1) (by omega) (by omega) (by omega)) hlast
  rw [List.pairwise_append, List.pairwise_cons]
  refine ⟨hp.take, ⟨fun y hy => ?_, hp.drop⟩, fun a ha b hb => ?_⟩
  · have := (lt3_iff' x y).1 (above y hy)
    unfold ordT
    omega
  · rw [List.mem_cons] at hb
    rcases hb with rfl | hb
    · exact below a ha
    · refine ordT_trans (below a ha) ?_
      have := (lt3_iff' x b).1 (above b hb)
      unfold ordT
      omega
theorem mem_put (p : List S35) (x y : S35) : y ∈ put p x ↔ y = x ∨ y ∈ p := by
  unfold put
  rw [List.mem_append, List.mem_cons]
  constructor
  · rintro (h | h | h)
    · exact .inr (List.mem_of_mem_take h)
    · exact .inl h
    · exact .inr (List.mem_of_mem_drop h)
  · rintro (h | h)
    · exact .inr (.inl h)
    · rw [← List.take_append_drop (stop p x p.length) p, List.mem_append] at h
      rcases h with h | h
      · exact .inl h
      · exact .inr (.inr h)
theorem put_ne (p : List S35) (x : S35) (hp : p.Pairwise fun a b => tag a ≠ tag b) (hx : ∀ y ∈ p, tag y < tag x) : (put p x).Pairwise fun a b => tag a ≠ tag b := by
  unfold put
  have h := List.pairwise_append.1 (show (p.take (stop p x p.length) ++ p.drop (stop p x p.length)).Pairwise _ by rw [List.take_append_drop]; exact hp)
  rw [List.pairwise_append, List.pairwise_cons]
  refine ⟨h.1, ⟨fun y hy => ?_, h.2.1⟩, fun a ha b hb => ?_⟩
  · have := hx y (List.mem_of_mem_drop hy); omega
  · rw [List.mem_cons] at hb
    rcases hb with rfl | hb
    · have := hx a (List.mem_of_mem_take ha); omega
    · exact h.2.2 a ha b hb
/-- The texts are told in order. -/
structure Told (s : List S35) : Prop where
  len : s.length ≤ 6
  text : ∀ j, j < s.length → (s.getD j z35).f2 = strOfNums [97 + (j : Int)]
theorem tag_told {s : List S35} (h : Told s) (j : Nat) (hj : j < s.length) : tag (s.getD j z35) = 97 + j := by
  unfold tag
  rw [h.text j hj]
  have hl := h.len
  match j, (by omega : j < 6) with
  | 0, _ => rfl
  | 1, _ => rfl
  | 2, _ => rfl
  | 3, _ => rfl
  | 4, _ => rfl
  | 5, _ => rfl
theorem srt_told {s : List S35} (h : Told s) : ∀ n, n ≤ s.length → (srt (s.take n)).Pairwise ordT ∧ (srt (s.take n)).Pairwise (fun a b => tag a ≠ tag b) ∧ ∀ y ∈ srt (s.take n), ∃ j, j < n ∧ y = s.getD j z35
  | 0, _ => by simp [srt]
  | n + 1, hn => by
    obtain ⟨h1, h2, h3⟩ := srt_told h n (by omega)
    have hx : ∀ y ∈ srt (s.take n), tag y < tag (s.getD n z35) := by
      intro y hy
      obtain ⟨j, hj, rfl⟩ := h3 y hy
      rw [tag_told h j (by omega), tag_told h n (by omega)]
      omega
    have e : srt (s.take (n + 1)) = put (srt (s.take n)) (s.getD n z35) := by
      rw [List.take_succ_eq_append_getElem (by omega), srt_snoc, List.getD_eq_getElem?_getD, List.getElem?_eq_getElem (by omega)]
      rfl
    rw [e]
    refine ⟨put_ord _ _ h1 hx, put_ne _ _ h2 hx, fun y hy => ?_⟩
    rw [mem_put] at hy
    rcases hy with rfl | hy
    · exact ⟨n, by omega, rfl⟩
    · obtain ⟨j, hj, e⟩ := h3 y hy
      exact ⟨j, by omega, e⟩
/-- All of it, of the whole. -/
structure Sorted (s m : List S35) : Prop where
  len : m.length = s.length
  ord : ∀ i, i + 1 < m.length → ordT (m.getD i z35) (m.getD (i + 1) z35)
  ne : ∀ i q, i < m.length → q < i → tag (m.getD q z35) ≠ tag (m.getD i z35)
  from_ : ∀ i, i < m.length → ∃ j, j < s.length ∧ m.getD i z35 = s.getD j z35
theorem srt_sorted {s : List S35} (h : Told s) : Sorted s (srt s) := by
  obtain ⟨h1, h2, h3⟩ := srt_told h s.length (Nat.le_refl _)
  rw [List.take_length] at h1 h2 h3
  have hg : ∀ i, ∀ hi : i < (srt s).length, (srt s).getD i z35 = (srt s)[i] := fun i hi => by rw [List.getD_eq_getElem?_getD, List.getElem?_eq_getElem hi]; rfl
  refine ⟨srt_length s, fun i hi => ?_, fun i q hi hq => ?_, fun i hi => ?_⟩
  · rw [hg i (by omega), hg (i + 1) hi]
    exact List.pairwise_iff_getElem.1 h1 i (i + 1) (by omega) hi (by omega)
  · rw [hg i hi, hg q (by omega)]
    exact List.pairwise_iff_getElem.1 h2 q i (by omega) hi hq
  · rw [hg i hi]
    exact h3 _ (List.getElem_mem _)
end Go.Proofs.Ytbaokhcadifdmaa.Pure

/- The law SpliceMerges: what its splices are turned to ahead of the merging, and the contract of the whole. -/
import Derived.Test.YtbaokhcadifdmaaWalkMerges
import Derived.Test.YtbaokhcadifdmaaLibSplice
import Derived.Test.YtbaokhcadifdmaaOpens
set_option linter.unusedVariables false
set_option linter.unusedSimpArgs false
namespace Go.Proofs.Ytbaokhcadifdmaa.Pure
open Go.RowKit Go.Proofs.Ytbaokhcadifdmaa.PAll Go.Proofs.YtbaokhcadifdmaaW.PrintWords Go.Proofs.YtbaokhcadifdmaaW.PrintLast Go.Proofs.YtbaokhcadifdmaaW.PrintMore Go.Proofs.YtbaokhcadifdmaaW.Plain

theorem raw_l (l : List S35) (n : Nat) : ∀ (d : Nat) (acc : List S35) (at_ : Int), acc.length + d = 6 → (∀ x ∈ acc, x.f2.size ≤ 20) →
    ∃ s, (∀ k, 2 * d + 2 ≤ k → scholiumlaw03_Splices.l0 k l (n : Int) true acc at_ (acc.length : Int) = some s) ∧ s.length ≤ 6 ∧ (∀ x ∈ s, x.f2.size ≤ 20) := by
  intro d
  induction d with
  | zero =>
    intro acc at_ hd ht
    refine ⟨acc, fun k hk => ?_, by omega, ht⟩
    obtain ⟨k, rfl⟩ : ∃ m, k = m + 2 := ⟨k - 2, by omega⟩
    simp only [scholiumlaw03_Splices.l0, scholiumlaw03_Splices.j1]
    rw [decide_eq_false (by omega)]
    split <;> rfl
  | succ d ih =>
    intro acc at_ hd ht
    by_cases hlt : (acc.length : Int) < (l.length : Int)
    · obtain ⟨s, hs, h1, h2⟩ := ih (acc ++ [(⟨(rd_T35 l acc.length).f0, (rd_T35 l acc.length).f1, ((rd_T35 l acc.length).f2).extract 0 (min ((rd_T35 l acc.length).f2).size 20)⟩ : S35)]) at_ (by simp; omega) (by
        intro x hx
        rw [List.mem_append, List.mem_singleton] at hx
        rcases hx with hx | rfl
        · exact ht x hx
        · exact text_len _ 20)
      refine ⟨s, fun k hk => ?_, h1, h2⟩
      obtain ⟨k, rfl⟩ : ∃ m, k = m + 2 := ⟨k - 2, by omega⟩
      simp only [scholiumlaw03_Splices.l0, scholiumlaw03_Splices.j1]
      rw [if_pos hlt, decide_eq_true (show (acc.length : Int) < 6 by omega), if_pos rfl, if_pos (by omega), if_pos hlt, show scholiumkeep_Text.f (rd_T35 l acc.length).f2 20 = _ from text_some (rd_T35 l acc.length).f2 20]
      simp only [Option.bind_some, if_true]
      rw [if_pos (by omega), w64 (by omega) (by omega)]
      have := hs k (by omega)
      rw [List.length_append, List.length_singleton, Int.natCast_add, Int.natCast_one] at this
      exact this
    · refine ⟨acc, fun k hk => ?_, by omega, ht⟩
      obtain ⟨k, rfl⟩ : ∃ m, k = m + 2 := ⟨k - 2, by omega⟩
      simp only [scholiumlaw03_Splices.l0, scholiumlaw03_Splices.j1]
      rw [if_neg hlt]
      rfl
theorem merges_l (n : Nat) (hn : n ≤ 6) : ∀ (d k i : Nat) (s : List S35), i + d = n → d < k → s.length = n → (∀ j, j < i → (s.getD j z35).f2 = strOfNums [97 + (j : Int)]) →
    ∃ r, scholiumlaw03_SpliceMerges.l0 k s (n : Int) (i : Int) = some r ∧ Told r := by
  intro d
  induction d with
  | zero =>
    intro k i s hi hk hs hj
    obtain ⟨k, rfl⟩ : ∃ m, k = m + 1 := ⟨k - 1, by omega⟩
    refine ⟨s, ?_, by omega, fun j h => hj j (by omega)⟩
    simp only [scholiumlaw03_SpliceMerges.l0]
    rw [if_neg (by omega)]
  | succ d ih =>
    intro k i s hi hk hs hj
    obtain ⟨k, rfl⟩ : ∃ m, k = m + 1 := ⟨k - 1, by omega⟩
    obtain ⟨p, hp, _⟩ := within_some (rd_T35 s i).f0 4 (by decide) (by decide)
    obtain ⟨q, hq, _⟩ := within_some (rd_T35 s i).f1 4 (by decide) (by decide)
    obtain ⟨y1, hy1⟩ : ∃ y, s.set (i : Int).toNat (⟨p, (rd_T35 s i).f1, (rd_T35 s i).f2⟩ : S35) = y := ⟨_, rfl⟩
    obtain ⟨y2, hy2⟩ : ∃ y, y1.set (i : Int).toNat (⟨(rd_T35 y1 i).f0, q, (rd_T35 y1 i).f2⟩ : S35) = y := ⟨_, rfl⟩
    have hb : (wrap64 (97 + (i : Int))) % 256 = 97 + (i : Int) := by rw [w64 (by omega) (by omega)]; omega
    obtain ⟨r, hr, ht⟩ := ih k (i + 1) (y2.set (i : Int).toNat (⟨(rd_T35 y2 i).f0, (rd_T35 y2 i).f1, strOfNums [(wrap64 (97 + (i : Int))) % 256]⟩ : S35)) (by omega) (by omega) (by rw [List.length_set, ← hy2, List.length_set, ← hy1, List.length_set, hs]) (by
      intro j h
      rw [Int.toNat_natCast, List.getD_eq_getElem?_getD, List.getElem?_set]
      by_cases e : i = j
      · subst e
        rw [if_pos rfl, if_pos (by rw [← hy2, List.length_set, ← hy1, List.length_set]; omega), hb]
        rfl
      · rw [if_neg e, ← hy2, List.getElem?_set, if_neg (by rw [Int.toNat_natCast]; exact e), ← hy1, List.getElem?_set, if_neg (by rw [Int.toNat_natCast]; exact e), ← List.getD_eq_getElem?_getD]
        exact hj j (by omega))
    refine ⟨r, ?_, ht⟩
    simp only [scholiumlaw03_SpliceMerges.l0]
    rw [if_pos (by omega), if_pos (by omega), if_pos (by omega), hp, Option.bind_some, hq, Option.bind_some, hy1, Option.bind_some, hy2, Option.bind_some, show wrap64 ((i : Int) + 1) = ((i + 1 : Nat) : Int) by rw [w64 (by omega) (by omega)]; omega]
    exact hr
theorem SpliceMerges (A0 : Option Addr) (c0 : Nat) (l0 : List S35) (W : World) (hr0 : Kd.C k35 W A0 l0.length l0) (hc0 : l0.length ≤ c0) (_ : l0.length * 32 ≤ 140737488351232) (_ : ∀ x ∈ l0, Opens.Fine x) :
    Calls Try.prog 7 #[.slice A0 l0.length c0] W fun e w' => e = .returned (.bool true) ∧ Below W.heap.size W w' := by
  obtain ⟨s, hs, h1, _⟩ := raw_l l0 30 6 [] 0 rfl (by simp)
  obtain ⟨r, hr, ht⟩ := merges_l s.length h1 s.length 14 0 s (by omega) (by omega) rfl (by omega)
  refine merges_walk 14 A0 c0 l0 r W hr0 hc0 ?_ ht
  unfold scholiumlaw03_SpliceMerges.f scholiumlaw03_Splices.f
  have h := hs 14 (by omega)
  rw [show scholiumlaw03_Splices.l0 14 l0 30 true [] 0 0 = some s from h, Option.bind_some]
  exact hr
end Go.Proofs.Ytbaokhcadifdmaa.Pure

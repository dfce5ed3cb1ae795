/- Where a byte goes behind splices: the printed function Map in plain words ('mp', 'pos'), and what it says of the text that comes. -/
import Derived.Test.YtbaokhcadifdmaaPAllF23
import Derived.Test.YtbaokhcadifdmaaLibSplice
namespace Go.Proofs.Ytbaokhcadifdmaa.Pure
open Go.RowKit Go.Proofs.Ytbaokhcadifdmaa.PAll Go.Proofs.YtbaokhcadifdmaaW.PrintWords Go.Proofs.YtbaokhcadifdmaaW.PrintLast Go.Proofs.YtbaokhcadifdmaaW.Plain

/-- Map, from some sum on. -/
def mp (i : Int) : Int → List S35 → Int × Bool
  | o, [] => (o, true)
  | o, x :: l => if x.f1 ≤ i then mp i (o + x.f2.size - (x.f1 - x.f0)) l else if x.f0 ≤ i then (0, false) else mp i o l
/-- Is a byte in one of the splices? -/
def ins (i : Int) : List S35 → Bool
  | [] => false
  | x :: l => (decide (i ≥ x.f0) && decide (i < x.f1)) || ins i l
/-- By how much the text grows. -/
def dl : List S35 → Int
  | [] => 0
  | x :: l => x.f2.size - (x.f1 - x.f0) + dl l
/-- Where the byte at i lies in what comes of the bytes from p on. -/
def pos (i : Nat) : Nat → List S35 → Nat
  | p, [] => i - p
  | p, x :: l => if (i : Int) < x.f0 then i - p else (x.f0.toNat - p) + x.f2.size + pos i x.f1.toNat l
theorem mp_ins (i : Int) : ∀ (l : List S35) (o : Int), (mp i o l).2 = !ins i l
  | [], _ => rfl
  | x :: l, o => by
    simp only [mp, ins]
    split
    · rename_i h
      rw [mp_ins i l, decide_eq_false (show ¬ i < x.f1 by omega)]
      simp
    · rename_i h
      split
      · rename_i h2
        rw [decide_eq_true (show i ≥ x.f0 by omega), decide_eq_true (show i < x.f1 by omega)]
        rfl
      · rename_i h2
        rw [mp_ins i l, decide_eq_false (show ¬ i ≥ x.f0 by omega)]
        simp
theorem mp_ahead (n i : Int) : ∀ (l : List S35) (q o : Int), vld n q l = true → i < q → mp i o l = (o, true)
  | [], _, _, _, _ => rfl
  | x :: l, q, o, hv, h => by
    obtain ⟨h0, h1, h2, h3⟩ := vld_cons hv
    simp only [mp]
    rw [if_neg (by omega), if_neg (by omega)]
    exact mp_ahead n i l x.f1 o h3 (by omega)
theorem mp_pos (b : List Int) (i : Nat) (hi : i < b.length) : ∀ (l : List S35) (p : Nat) (o : Int), vld b.length p l = true → p ≤ i → ins i l = false → mp i o l = (o + ((pos i p l : Int) - ((i : Int) - p)), true)
  | [], p, o, _, hp, _ => by
    simp only [mp, pos]
    rw [show o + (((i - p : Nat) : Int) - ((i : Int) - p)) = o by omega]
  | x :: l, p, o, hv, hp, hin => by
    obtain ⟨h0, h1, h2, h3⟩ := vld_cons hv
    simp only [ins, Bool.or_eq_false_iff, Bool.and_eq_false_iff, decide_eq_false_iff_not] at hin
    simp only [mp, pos]
    by_cases hlt : (i : Int) < x.f0
    · rw [if_neg (by omega), if_neg (by omega), if_pos hlt, mp_ahead b.length i l x.f1 o h3 (by omega)]
      rw [show o + (((i - p : Nat) : Int) - ((i : Int) - p)) = o by omega]
    · have hge : x.f1 ≤ (i : Int) := by
        rcases hin.1 with h | h <;> omega
      rw [if_pos hge, if_neg hlt]
      have hq : x.f1 = (x.f1.toNat : Int) := (Int.toNat_of_nonneg (by omega)).symm
      rw [mp_pos b i hi l x.f1.toNat _ (by rw [← hq]; exact h3) (by omega) hin.2]
      congr 1
      omega
theorem doS_pos (b : List Int) (i : Nat) (hi : i < b.length) : ∀ (l : List S35) (p : Nat), vld b.length p l = true → p ≤ i → ins i l = false → pos i p l < (doS b p l).length ∧ (doS b p l).getD (pos i p l) 0 = b.getD i 0
  | [], p, _, hp, _ => by
    simp only [doS, pos, List.length_drop]
    refine ⟨by omega, ?_⟩
    simp only [List.getD_eq_getElem?_getD, List.getElem?_drop]
    rw [show p + (i - p) = i by omega]
  | x :: l, p, hv, hp, hin => by
    obtain ⟨h0, h1, h2, h3⟩ := vld_cons hv
    simp only [ins, Bool.or_eq_false_iff, Bool.and_eq_false_iff, decide_eq_false_iff_not] at hin
    have hcl := cut_len b p x.f0.toNat (by omega)
    simp only [doS, pos]
    by_cases hlt : (i : Int) < x.f0
    · rw [if_pos hlt]
      refine ⟨by simp only [List.length_append, hcl]; omega, ?_⟩
      simp only [List.getD_eq_getElem?_getD]
      rw [List.append_assoc, List.getElem?_append_left (by rw [hcl]; omega), List.getElem?_drop, List.getElem?_take, if_pos (by omega), show p + (i - p) = i by omega]
    · have hge : x.f1 ≤ (i : Int) := by
        rcases hin.1 with h | h <;> omega
      have hq : x.f1 = (x.f1.toNat : Int) := (Int.toNat_of_nonneg (by omega)).symm
      obtain ⟨k1, k2⟩ := doS_pos b i hi l x.f1.toNat (by rw [← hq]; exact h3) (by omega) hin.2
      rw [if_neg hlt]
      have hpl : ((b.take x.f0.toNat).drop p ++ bytesOf x.f2).length = (x.f0.toNat - p) + x.f2.size := by rw [List.length_append, hcl, bytesOf_length]
      refine ⟨by rw [List.length_append, hpl]; omega, ?_⟩
      simp only [List.getD_eq_getElem?_getD] at k2 ⊢
      rw [List.getElem?_append_right (by rw [hpl]; omega), hpl, show x.f0.toNat - p + x.f2.size + pos i x.f1.toNat l - (x.f0.toNat - p + x.f2.size) = pos i x.f1.toNat l by omega, k2]
theorem pos_mono (b : List Int) (i j : Nat) (hij : i < j) (hj : j < b.length) : ∀ (l : List S35) (p : Nat), vld b.length p l = true → p ≤ i → ins i l = false → ins j l = false → pos i p l < pos j p l
  | [], p, _, hp, _, _ => by simp only [pos]; omega
  | x :: l, p, hv, hp, hin, hjn => by
    obtain ⟨h0, h1, h2, h3⟩ := vld_cons hv
    simp only [ins, Bool.or_eq_false_iff, Bool.and_eq_false_iff, decide_eq_false_iff_not] at hin hjn
    have hq : x.f1 = (x.f1.toNat : Int) := (Int.toNat_of_nonneg (by omega)).symm
    simp only [pos]
    by_cases hlt : (i : Int) < x.f0
    · rw [if_pos hlt]
      by_cases hlt2 : (j : Int) < x.f0
      · rw [if_pos hlt2]; omega
      · rw [if_neg hlt2]; omega
    · have hge : x.f1 ≤ (i : Int) := by
        rcases hin.1 with h | h <;> omega
      rw [if_neg hlt, if_neg (by omega)]
      have := pos_mono b i j hij hj l x.f1.toNat (by rw [← hq]; exact h3) (by omega) hin.2 hjn.2
      omega
theorem doS_size (b : List Int) : ∀ (l : List S35) (p : Nat), p ≤ b.length → vld b.length p l = true → ((doS b p l).length : Int) = b.length - p + dl l
  | [], p, hp, _ => by simp only [doS, dl, List.length_drop]; omega
  | x :: l, p, hp, hv => by
    obtain ⟨h0, h1, h2, h3⟩ := vld_cons hv
    have hcl := cut_len b p x.f0.toNat (by omega)
    have hq : x.f1 = (x.f1.toNat : Int) := (Int.toNat_of_nonneg (by omega)).symm
    have := doS_size b l x.f1.toNat (by omega) (by rw [← hq]; exact h3)
    simp only [doS, dl, List.length_append, hcl, bytesOf_length]
    omega
/-- Between what bounds the numbers lie. -/
theorem dl_bound {n : Int} : ∀ {l : List S35} {a : Int}, vld n a l = true → a ≤ n → -(n - a) ≤ dl l ∧ dl l ≤ sumT l
  | [], _, _, h => by simp only [dl, sumT]; omega
  | x :: l, a, hv, _ => by
    obtain ⟨h0, h1, h2, h3⟩ := vld_cons hv
    have := dl_bound h3 h2
    simp only [dl, sumT]
    omega
theorem map_l (n : Int) (i : Int) (hn : n ≤ 1000000000) (l : List S35) (hl : l.length ≤ 1000000000) (_ : sumT l ≤ 1000000000) : ∀ (d k j : Nat) (o a : Int), j + d = l.length → d < k → vld n a (l.drop j) = true → 0 ≤ a → a ≤ n → -1000000000000 + (n - a) ≤ o → o + sumT (l.drop j) ≤ 1000000000000 →
    splice_Map.l0 k i o l (l.length : Int) (j : Int) = some (mp i o (l.drop j)) := by
  intro d
  induction d with
  | zero =>
    intro k j o a hj hk _ _ _ _ _
    obtain ⟨k, rfl⟩ : ∃ m, k = m + 1 := ⟨k - 1, by omega⟩
    simp only [splice_Map.l0]
    rw [if_neg (by omega), List.drop_eq_nil_of_le (by omega)]
    rfl
  | succ d ih =>
    intro k j o a hj hk hv ha han ho1 ho2
    obtain ⟨k, rfl⟩ : ∃ m, k = m + 1 := ⟨k - 1, by omega⟩
    have e := rdS l j (by omega)
    obtain ⟨x, hx⟩ : ∃ x, rd_T35 l (j : Int) = x := ⟨_, rfl⟩
    rw [hx] at e
    rw [e] at hv ho2
    obtain ⟨h0, h1, h2, h3⟩ := vld_cons hv
    simp only [sumT] at ho2
    simp only [splice_Map.l0, hx]
    rw [if_pos (by omega), if_pos (by omega), if_pos (by omega), e]
    simp only [mp]
    have w : wrap64 ((j : Int) + 1) = ((j + 1 : Nat) : Int) := by rw [w64 (by omega) (by omega)]; omega
    rw [w, w64 (x := x.f1 - x.f0) (by omega) (by omega), w64 (x := o + (x.f2.size : Int)) (by omega) (by omega), w64 (x := o + (x.f2.size : Int) - (x.f1 - x.f0)) (by omega) (by omega)]
    rw [ih k (j + 1) _ x.f1 (by omega) (by omega) h3 (by omega) h2 (by omega) (by omega), ih k (j + 1) _ x.f1 (by omega) (by omega) h3 (by omega) h2 (by omega) (by omega)]
    split
    · rfl
    · split <;> rfl
theorem map_some (n : Int) (i : Int) (hi0 : 0 ≤ i) (hi : i ≤ n) (hn : n ≤ 1000000000) (l : List S35) (hl : l.length ≤ 1000000000) (hst : sumT l ≤ 1000000000) (hv : vld n 0 l = true) (k : Nat) (hk : l.length < k) : splice_Map.f k i l = some (mp i i l) := by
  have := map_l n i hn l hl hst l.length k 0 i 0 (by omega) hk (by simpa using hv) (by omega) (by omega) (by omega) (by simp only [List.drop_zero]; omega)
  simpa [splice_Map.f] using this
end Go.Proofs.Ytbaokhcadifdmaa.Pure

/- AuditPieces: for any two texts (cut at 60) and any splices (made valid): Outside's pieces are what the splices leave, Kept says whether a text is what they make, Common says how much two texts have in common at both ends. No condition. -/
import Derived.Test.YtbaokhcadifdmaaPAllF11
import Derived.Test.YtbaokhcadifdmaaLibOutside
import Derived.Test.YtbaokhcadifdmaaOpens
set_option linter.unusedVariables false
namespace Go.Proofs.Ytbaokhcadifdmaa.Pure
open Go.RowKit Go.Proofs.Ytbaokhcadifdmaa.PAll Go.Proofs.YtbaokhcadifdmaaW.PrintWords Go.Proofs.YtbaokhcadifdmaaW.PrintLast Go.Proofs.YtbaokhcadifdmaaW.Plain

theorem w_succ (i : Nat) (h : i ≤ 1000000000) : wrap64 ((i : Int) + 1) = ((i + 1 : Nat) : Int) := by
  rw [w64 (by omega) (by omega)]
  omega
theorem w_back (n m : Nat) (h : m < n) (h2 : n ≤ 1000000000) : wrap64 (wrap64 ((n : Int) - 1) - m) = ((n - 1 - m : Nat) : Int) := by
  rw [w64 (x := (n : Int) - 1) (by omega) (by omega), w64 (by omega) (by omega)]
  omega
theorem w_sub (n m : Nat) (h : m ≤ n) (h2 : n ≤ 1000000000) : wrap64 ((n : Int) - m) = ((n - m : Nat) : Int) := by
  rw [w64 (by omega) (by omega)]
  omega
theorem drop_rev_getD (b : List Int) (n m : Nat) (h : m < b.length - n) : (b.drop n).getD ((b.drop n).length - 1 - m) 0 = b.getD (b.length - 1 - m) 0 := by
  simp only [List.getD_eq_getElem?_getD, List.getElem?_drop, List.length_drop]
  rw [show n + (b.length - n - 1 - m) = b.length - 1 - m by omega]
/-- The end of the law: both counts are Common's. -/
theorem pieces_end (b c : List Int) (hb : b.length ≤ 1000) (hc : c.length ≤ 1000) (k : Nat) (hk : 2 * b.length + 3 ≤ k) :
    ((audit_Common.f k b c).bind fun bt384 => (if bt384.1 = (cp b c : Int) then (if bt384.2 = (cs (b.drop (cp b c)) (c.drop (cp b c)) : Int) then ((scholiumlaw25_wakes.f).bind fun t386 => (some t386)) else (some false)) else (some false))) = some true := by
  rw [common_some b c (by omega) (by omega) k hk]
  simp [scholiumlaw25_wakes.f]
theorem pieces_l2 (b c : List Int) (hb : b.length ≤ 1000) (hc : c.length ≤ 1000) (K0 : Nat) (hK0 : 2 * b.length + 3 ≤ K0) : ∀ (d m k : Nat), m + d = cs (b.drop (cp b c)) (c.drop (cp b c)) → d + K0 < k →
    scholiumlaw25_AuditPieces.l2 k b c (cp b c : Int) (m : Int) = some true := by
  have hcp := cp_le b c
  have hcs := cs_le (b.drop (cp b c)) (c.drop (cp b c))
  rw [List.length_drop, List.length_drop] at hcs
  intro d
  induction d with
  | zero =>
    intro m k hm hk
    obtain ⟨k, rfl⟩ : ∃ q, k = q + 1 := ⟨k - 1, by omega⟩
    have hend := pieces_end b c hb hc k (by omega)
    have em : m = cs (b.drop (cp b c)) (c.drop (cp b c)) := by omega
    simp only [scholiumlaw25_AuditPieces.l2]
    rw [w_sub b.length (cp b c) (by omega) (by omega), w_sub c.length (cp b c) (by omega) (by omega)]
    by_cases h1 : (m : Int) < ((b.length - cp b c : Nat) : Int)
    · rw [if_pos h1]
      by_cases h2 : (m : Int) < ((c.length - cp b c : Nat) : Int)
      · rw [if_pos h2, w_back b.length m (by omega) (by omega), w_back c.length m (by omega) (by omega)]
        rw [if_pos (Int.natCast_nonneg _), if_pos (by omega), if_pos (Int.natCast_nonneg _), if_pos (by omega), rd_nat, rd_nat]
        have hne := cs_ne (b.drop (cp b c)) (c.drop (cp b c)) (by rw [List.length_drop]; omega) (by rw [List.length_drop]; omega)
        rw [← em, drop_rev_getD b _ m (by omega), drop_rev_getD c _ m (by omega)] at hne
        rw [if_neg hne, em]
        exact hend
      · rw [if_neg h2, em]
        exact hend
    · rw [if_neg h1, em]
      exact hend
  | succ d ih =>
    intro m k hm hk
    obtain ⟨k, rfl⟩ : ∃ q, k = q + 1 := ⟨k - 1, by omega⟩
    have he := cs_eq (b.drop (cp b c)) (c.drop (cp b c)) m (by omega)
    rw [drop_rev_getD b _ m (by omega), drop_rev_getD c _ m (by omega)] at he
    simp only [scholiumlaw25_AuditPieces.l2]
    rw [w_sub b.length (cp b c) (by omega) (by omega), w_sub c.length (cp b c) (by omega) (by omega), if_pos (by omega), if_pos (by omega), w_back b.length m (by omega) (by omega), w_back c.length m (by omega) (by omega)]
    rw [if_pos (Int.natCast_nonneg _), if_pos (by omega), if_pos (Int.natCast_nonneg _), if_pos (by omega), rd_nat, rd_nat, if_pos he, w_succ m (by omega)]
    exact ih (m + 1) k (by omega) (by omega)
theorem pieces_l1 (b c : List Int) (hb : b.length ≤ 1000) (hc : c.length ≤ 1000) (K0 : Nat) (hK0 : 3 * b.length + 10 ≤ K0) : ∀ (d i k : Nat), i + d = cp b c → d + K0 < k →
    scholiumlaw25_AuditPieces.l1 k b c (i : Int) 0 = some true := by
  have hcp := cp_le b c
  have hcs := cs_le (b.drop (cp b c)) (c.drop (cp b c))
  rw [List.length_drop, List.length_drop] at hcs
  have hj : ∀ k, K0 < k + 1 → scholiumlaw25_AuditPieces.j5 k b c (cp b c : Int) 0 = some true := by
    intro k hk
    obtain ⟨k, rfl⟩ : ∃ q, k = q + 1 := ⟨k - 1, by omega⟩
    simp only [scholiumlaw25_AuditPieces.j5]
    exact pieces_l2 b c hb hc (2 * b.length + 3) (Nat.le_refl _) (cs (b.drop (cp b c)) (c.drop (cp b c))) 0 k (by omega) (by omega)
  intro d
  induction d with
  | zero =>
    intro i k hi hk
    obtain ⟨k, rfl⟩ : ∃ q, k = q + 1 := ⟨k - 1, by omega⟩
    have ei : i = cp b c := by omega
    simp only [scholiumlaw25_AuditPieces.l1]
    by_cases h1 : (i : Int) < (b.length : Int)
    · rw [if_pos h1]
      by_cases h2 : (i : Int) < (c.length : Int)
      · have hne := cp_ne b c (by omega) (by omega)
        rw [if_pos h2, if_pos (Int.natCast_nonneg _), rd_nat, rd_nat, ei, if_neg hne]
        exact hj k (by omega)
      · rw [if_neg h2, ei]
        exact hj k (by omega)
    · rw [if_neg h1, ei]
      exact hj k (by omega)
  | succ d ih =>
    intro i k hi hk
    obtain ⟨k, rfl⟩ : ∃ q, k = q + 1 := ⟨k - 1, by omega⟩
    simp only [scholiumlaw25_AuditPieces.l1]
    rw [if_pos (by omega), if_pos (by omega), if_pos (Int.natCast_nonneg _), rd_nat, rd_nat, if_pos (cp_eq b c i (by omega)), w_succ i (by omega)]
    exact ih (i + 1) k (by omega) (by omega)
theorem pieces_j2 (b c : List Int) (s : List S35) (hb : b.length ≤ 60) (hc : c.length ≤ 200) (hb2 : ∀ x ∈ b, 0 ≤ x ∧ x < 256) (hc2 : ∀ x ∈ c, 0 ≤ x ∧ x < 256) (hsl : s.length ≤ 6) (hv : vld b.length 0 s = true) (hst : sumT s ≤ 120) (k : Nat) (hk : 1000 ≤ k) :
    scholiumlaw25_AuditPieces.j2 k b c s (doS b 0 s) 0 = some true := by
  have hcp := cp_le b c
  obtain ⟨k, rfl⟩ : ∃ q, k = q + 1 + 1 := ⟨k - 2, by omega⟩
  simp only [scholiumlaw25_AuditPieces.j2, if_true]
  rw [kept_some b c s (by omega) (by omega) hv (by omega) hb2 hc2 _ (by omega), Option.bind_some, same_some c _ (by omega) _ (by omega), Option.bind_some]
  have e : (decide (doS b 0 s = c) != decide (c = doS b 0 s)) = false := by
    by_cases h : doS b 0 s = c
    · simp [h]
    · have h2 : ¬ c = doS b 0 s := fun e => h e.symm
      simp [h, h2]
  rw [e]
  simp only [scholiumlaw25_AuditPieces.j3]
  rw [if_neg (by simp)]
  exact pieces_l1 b c (by omega) (by omega) (3 * b.length + 10) (Nat.le_refl _) (cp b c) 0 k (by omega) (by omega)
theorem pieces_l0 (b c : List Int) (a3 : Bool) (s : List S35) (hb : b.length ≤ 60) (hc : c.length ≤ 60) (hb2 : ∀ x ∈ b, 0 ≤ x ∧ x < 256) (hc2 : ∀ x ∈ c, 0 ≤ x ∧ x < 256) (hsl : s.length ≤ 6) (hv : vld b.length 0 s = true) (hst : sumT s ≤ 120) (P : List (List Int)) (hP : P = pcs b 0 s) (K0 : Nat) (hK0 : 1100 ≤ K0) :
    ∀ (d i p k : Nat), i + d = s.length → 2 * d + K0 < k → p ≤ b.length → vld b.length p (s.drop i) = true → P.drop i = pcs b p (s.drop i) →
    scholiumlaw25_AuditPieces.l0 k b c a3 s P (p : Int) (P.length : Int) (i : Int) = some true := by
  have hPl : P.length = s.length + 1 := by rw [hP]; exact pcs_len b s 0
  have hlen := doS_len b s 0 (by omega) hv
  intro d
  induction d with
  | zero =>
    intro i p k hi hk hp hvi hPd
    obtain ⟨k, rfl⟩ : ∃ q, k = q + 1 + 1 + 1 := ⟨k - 3, by omega⟩
    have ei := rdL P i (by omega)
    have hnil : s.drop i = [] := List.drop_eq_nil_of_le (by omega)
    rw [hnil] at hPd
    simp only [pcs] at hPd
    rw [hPd] at ei
    have e1 := (List.cons.inj ei).1
    have htk : b.take b.length = b := List.take_of_length_le (Nat.le_refl _)
    have hj2 : (if a3 = true then scholiumlaw25_AuditPieces.j2 k b (doS b 0 s) s (doS b 0 s) 0 else scholiumlaw25_AuditPieces.j2 k b c s (doS b 0 s) 0) = some true := by
      split
      · exact pieces_j2 b (doS b 0 s) s hb (by omega) hb2 (doS_range b hb2 s 0) hsl hv hst k (by omega)
      · exact pieces_j2 b c s hb (by omega) hb2 hc2 hsl hv hst k (by omega)
    simp only [scholiumlaw25_AuditPieces.l0, scholiumlaw25_AuditPieces.j1]
    rw [if_pos (by omega), if_neg (by omega), if_pos (Int.natCast_nonneg _), if_pos (by omega), if_pos (Int.natCast_nonneg _), if_pos (by omega), if_pos (Int.le_refl _), ← e1]
    simp only [Int.toNat_natCast]
    rw [htk, same_some _ _ (by rw [List.length_drop]; omega) _ (by rw [List.length_drop]; omega), Option.bind_some, if_pos (by simp), if_neg (by omega), w_succ i (by omega), if_neg (by omega), do_small b s (by omega) (by omega) hv (by omega) _ (by omega), Option.bind_some]
    exact hj2
  | succ d ih =>
    intro i p k hi hk hp hvi hPd
    obtain ⟨k, rfl⟩ : ∃ q, k = q + 1 + 1 := ⟨k - 2, by omega⟩
    have ei := rdL P i (by omega)
    have e := rdS s i (by omega)
    obtain ⟨x, hx⟩ : ∃ x, rd_T35 s (i : Int) = x := ⟨_, rfl⟩
    rw [hx] at e
    rw [e] at hPd hvi
    obtain ⟨h0, h1, h2, h3⟩ := vld_cons hvi
    simp only [pcs] at hPd
    rw [hPd] at ei
    obtain ⟨e1, e2⟩ := List.cons.inj ei
    have hcl := cut_len b p x.f0.toNat (by omega)
    have hq : x.f1 = (x.f1.toNat : Int) := (Int.toNat_of_nonneg (by omega)).symm
    simp only [scholiumlaw25_AuditPieces.l0, scholiumlaw25_AuditPieces.j1, hx]
    rw [if_pos (by omega), if_pos (by omega), if_pos (Int.natCast_nonneg _), if_pos (Int.natCast_nonneg _), if_pos (by omega), if_pos (Int.natCast_nonneg _), if_pos h0, if_pos (by omega), ← e1]
    simp only [Int.toNat_natCast]
    rw [same_some _ _ (by rw [hcl]; omega) _ (by rw [hcl]; omega), Option.bind_some, if_pos (by simp), if_pos (by omega), w_succ i (by omega)]
    conv => lhs; rw [hq]
    exact ih (i + 1) x.f1.toNat k (by omega) (by omega) (by omega) (by rw [← hq]; exact h3) e2.symm
theorem AuditPieces (l0 l1 : List Int) (l2 : List S35) (a3 : Bool) (_ : l0.length ≤ maxLen) (_ : l0.length * 1 ≤ 140737488351232) (hw0 : ∀ x ∈ l0, (Lit.int .u8 x).wf = true) (_ : l1.length ≤ maxLen) (_ : l1.length * 1 ≤ 140737488351232) (hw1 : ∀ x ∈ l1, (Lit.int .u8 x).wf = true) (_ : l2.length * 32 ≤ 140737488351232) (_ : ∀ x ∈ l2, Opens.Fine x) :
    ∃ k, scholiumlaw25_AuditPieces.f k l0 l1 l2 a3 = some true := by
  obtain ⟨b, hb, hbl⟩ : ∃ a, l0.take 60 = a ∧ a.length ≤ 60 := ⟨_, rfl, by rw [List.length_take]; omega⟩
  obtain ⟨c, hc, hcl⟩ : ∃ a, l1.take 60 = a ∧ a.length ≤ 60 := ⟨_, rfl, by rw [List.length_take]; omega⟩
  have hb2 : ∀ x ∈ b, 0 ≤ x ∧ x < 256 := by
    intro x hx
    rw [← hb] at hx
    exact wf_u8_range' (hw0 x (List.mem_of_mem_take hx))
  have hc2 : ∀ x ∈ c, 0 ≤ x ∧ x < 256 := by
    intro x hx
    rw [← hc] at hx
    exact wf_u8_range' (hw1 x (List.mem_of_mem_take hx))
  have c0 := cut_some l0 60 (by omega)
  have c1 := cut_some l1 60 (by omega)
  rw [hb] at c0
  rw [hc] at c1
  obtain ⟨s, hs, hv, hsl, hsx, hst⟩ := splices_some l2 b.length (by omega)
  obtain ⟨K, hK⟩ : ∃ K : Nat, 1200 ≤ K := ⟨1200, Nat.le_refl _⟩
  refine ⟨K, ?_⟩
  unfold scholiumlaw25_AuditPieces.f
  rw [show (60 : Int) = ((60 : Nat) : Int) from rfl, c0, Option.bind_some, c1, Option.bind_some, hs K (by omega), Option.bind_some, outside_some b s (by omega) (by omega) hv K (by omega), Option.bind_some]
  rw [pcs_len, w_succ s.length (by omega), if_pos rfl, ← pcs_len b s 0]
  exact pieces_l0 b c a3 s hbl hcl hb2 hc2 hsl hv hst _ rfl 1100 (Nat.le_refl _) s.length 0 0 K (by omega) (by omega) (by omega) hv rfl
end Go.Proofs.Ytbaokhcadifdmaa.Pure

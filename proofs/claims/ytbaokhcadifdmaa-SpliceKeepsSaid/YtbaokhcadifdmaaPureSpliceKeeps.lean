/- SpliceKeeps: for any bytes (cut at 100) and any splices (made valid): each byte outside of the splices is there behind them, where Map says, in order; the length is as the splices say; none is nothing. No condition. -/
import Derived.Test.YtbaokhcadifdmaaPAllF8
import Derived.Test.YtbaokhcadifdmaaLibMap
import Derived.Test.YtbaokhcadifdmaaOpens
namespace Go.Proofs.Ytbaokhcadifdmaa.Pure
open Go.RowKit Go.Proofs.Ytbaokhcadifdmaa.PAll Go.Proofs.YtbaokhcadifdmaaW.PrintWords Go.Proofs.YtbaokhcadifdmaaW.PrintLast Go.Proofs.YtbaokhcadifdmaaW.Plain

theorem keeps_l2 (b : List Int) (s : List S35) (out : List Int) (x9 i n : Int) (ok : Bool) (x66 x67 : Int) (hsl : s.length ≤ 6) : ∀ (d j : Nat) (c : Bool) (k : Nat), j + d = s.length →
    scholiumlaw03_SpliceKeeps.l2 (k + d) b s out x9 i n ok c x66 x67 (s.length : Int) (j : Int) = scholiumlaw03_SpliceKeeps.l2 k b s out x9 i n ok (c || ins i (s.drop j)) x66 x67 (s.length : Int) (s.length : Int) := by
  intro d
  induction d with
  | zero =>
    intro j c k hj
    obtain rfl : j = s.length := by omega
    rw [List.drop_length]
    simp [ins]
  | succ d ih =>
    intro j c k hj
    have e := rdS s j (by omega)
    obtain ⟨x, hx⟩ : ∃ x, rd_T35 s (j : Int) = x := ⟨_, rfl⟩
    rw [hx] at e
    have w : wrap64 ((j : Int) + 1) = ((j + 1 : Nat) : Int) := by rw [w64 (by omega) (by omega)]; omega
    rw [← Nat.add_assoc]
    simp only [scholiumlaw03_SpliceKeeps.l2, hx]
    rw [if_pos (by omega), w]
    cases c with
    | true =>
      rw [if_pos rfl, ih (j + 1) true k (by omega)]
      simp
    | false =>
      rw [if_neg (by simp), if_pos (by omega), if_pos (by omega), e]
      simp only [ins]
      by_cases h : i ≥ x.f0
      · rw [if_pos h, ih (j + 1) _ k (by omega)]
        simp [h]
      · rw [if_neg h, ih (j + 1) _ k (by omega)]
        simp [h]
theorem keeps_l1 (b : List Int) (s : List S35) (hb : b.length ≤ 100) (hsl : s.length ≤ 6) (hv : vld b.length 0 s = true) (hst : sumT s ≤ 120) : ∀ (d i : Nat) (x9 : Int) (k : Nat), i + d = b.length → d * 20 + 400 ≤ k →
    (∀ j, i ≤ j → j < b.length → ins j s = false → x9 < pos j 0 s) →
    scholiumlaw03_SpliceKeeps.l1 k b s (doS b 0 s) x9 (b.length : Int) (i : Int) = some true := by
  intro d
  induction d with
  | zero =>
    intro i x9 k hi hk hx
    obtain ⟨k, rfl⟩ : ∃ m, k = m + 1 := ⟨k - 1, by omega⟩
    simp only [scholiumlaw03_SpliceKeeps.l1]
    rw [if_neg (by omega), do_small b [] (by simp) (by omega) rfl (by simp [sumT]) k (by simp; omega)]
    simp only [Option.bind_some, if_true, doS, List.drop_zero]
    rw [same_some b b (by omega) k (by omega)]
    simp [scholiumlaw03_wakes.f]
  | succ d ih =>
    intro i x9 k hi hk hx
    obtain ⟨k, rfl⟩ : ∃ m, k = m + 1 + s.length + 1 := ⟨k - s.length - 2, by omega⟩
    have w : wrap64 ((i : Int) + 1) = ((i + 1 : Nat) : Int) := by rw [w64 (by omega) (by omega)]; omega
    simp only [scholiumlaw03_SpliceKeeps.l1]
    rw [if_pos (by omega), map_some b.length i (by omega) (by omega) (by omega) s (by omega) (by omega) hv _ (by omega)]
    simp only [Option.bind_some]
    obtain ⟨mi, hmi⟩ : ∃ m, mp i i s = m := ⟨_, rfl⟩
    have hm2 := mp_ins i s i
    rw [hmi] at hm2 ⊢
    have hl2 := keeps_l2 b s (doS b 0 s) x9 i mi.1 mi.2 (b.length : Int) i hsl s.length 0 false (k + 1) (by omega)
    rw [List.drop_zero, Bool.false_or] at hl2
    rw [show ((0 : Nat) : Int) = 0 from rfl] at hl2
    rw [hl2]
    simp only [scholiumlaw03_SpliceKeeps.l2]
    rw [if_neg (by omega), hm2]
    cases hin : ins (i : Int) s with
    | true =>
      rw [if_neg (by simp), if_neg (by simp)]
      obtain ⟨k, rfl⟩ : ∃ m, k = m + 1 := ⟨k - 1, by omega⟩
      simp only [scholiumlaw03_SpliceKeeps.j3]
      rw [if_neg (by simp), if_neg (by simp), w]
      exact ih (i + 1) x9 k (by omega) (by omega) (fun j h1 h2 h3 => hx j (by omega) h2 h3)
    | false =>
      have hp := mp_pos b i (by omega) s 0 i (by simpa using hv) (by omega) hin
      rw [hmi] at hp
      have hp1 : mi.1 = (pos i 0 s : Int) := by rw [hp]; simp only []; omega
      obtain ⟨q1, q2⟩ := doS_pos b i (by omega) s 0 (by simpa using hv) (by omega) hin
      have hlt := hx i (Nat.le_refl _) (by omega) hin
      rw [if_neg (by simp), if_pos (by simp), hp1, if_neg (by omega), if_neg (by omega), if_pos (by omega), if_pos (by omega), if_pos (by omega), if_pos (by omega), rd_nat, rd_nat, q2]
      obtain ⟨k, rfl⟩ : ∃ m, k = m + 1 := ⟨k - 1, by omega⟩
      simp only [scholiumlaw03_SpliceKeeps.j3]
      rw [if_neg (by simp), if_pos (by simp), w]
      refine ih (i + 1) _ k (by omega) (by omega) (fun j h1 h2 h3 => ?_)
      have := pos_mono b i j (by omega) h2 s 0 (by simpa using hv) (by omega) hin h3
      omega
theorem keeps_l0 (b : List Int) (s : List S35) (hb : b.length ≤ 100) (hsl : s.length ≤ 6) (hv : vld b.length 0 s = true) (hst : sumT s ≤ 120) (K0 : Nat) (hK0 : b.length * 20 + 400 ≤ K0) : ∀ (d j : Nat) (z a : Int) (k : Nat), j + d = s.length → d + K0 < k →
    vld b.length a (s.drop j) = true → 0 ≤ a → a ≤ b.length → -1000 + (b.length - a) ≤ z → z ≤ 1000 - sumT (s.drop j) → z + dl (s.drop j) = dl s →
    scholiumlaw03_SpliceKeeps.l0 k b s (doS b 0 s) z (-1) (s.length : Int) (j : Int) = some true := by
  intro d
  induction d with
  | zero =>
    intro j z a k hj hk _ _ _ _ _ hz
    obtain ⟨k, rfl⟩ : ∃ m, k = m + 1 := ⟨k - 1, by omega⟩
    rw [List.drop_eq_nil_of_le (by omega)] at hz
    simp only [dl] at hz
    simp only [scholiumlaw03_SpliceKeeps.l0]
    have hsz := doS_size b s 0 (by omega) (by simpa using hv)
    have hdl := dl_bound hv (by omega)
    rw [if_neg (by omega), w64 (by omega) (by omega), if_pos (by omega)]
    exact keeps_l1 b s hb hsl hv hst b.length 0 (-1) k (by omega) (by omega) (fun j _ _ _ => by omega)
  | succ d ih =>
    intro j z a k hj hk hva ha han hz1 hz2 hz
    obtain ⟨k, rfl⟩ : ∃ m, k = m + 1 := ⟨k - 1, by omega⟩
    have e := rdS s j (by omega)
    obtain ⟨x, hx⟩ : ∃ x, rd_T35 s (j : Int) = x := ⟨_, rfl⟩
    rw [hx] at e
    rw [e] at hva hz2 hz
    obtain ⟨h0, h1, h2, h3⟩ := vld_cons hva
    simp only [sumT] at hz2
    simp only [dl] at hz
    have w : wrap64 ((j : Int) + 1) = ((j + 1 : Nat) : Int) := by rw [w64 (by omega) (by omega)]; omega
    simp only [scholiumlaw03_SpliceKeeps.l0, hx]
    have hk1 : d + K0 < k := by omega
    clear hk hK0
    have w1 : wrap64 (x.f1 - x.f0) = x.f1 - x.f0 := w64 (by omega) (by omega)
    have w2 : wrap64 ((x.f2.size : Int) - (x.f1 - x.f0)) = (x.f2.size : Int) - (x.f1 - x.f0) := w64 (by omega) (by omega)
    have w3 : wrap64 (z + ((x.f2.size : Int) - (x.f1 - x.f0))) = z + ((x.f2.size : Int) - (x.f1 - x.f0)) := w64 (by omega) (by omega)
    have hj1 : (j : Int) < (s.length : Int) := by omega
    rw [if_pos hj1, if_pos (Int.natCast_nonneg j), if_pos hj1, w, w1, w2, w3]
    exact ih (j + 1) _ x.f1 k (by omega) hk1 h3 (by omega) h2 (by omega) (by omega) (by omega)
theorem SpliceKeeps (l0 : List Int) (l1 : List S35) (_ : l0.length ≤ maxLen) (_ : l0.length * 1 ≤ 140737488351232) (_ : ∀ x ∈ l0, (Lit.int .u8 x).wf = true) (_ : l1.length * 32 ≤ 140737488351232) (_ : ∀ x ∈ l1, Opens.Fine x) :
    ∃ k, scholiumlaw03_SpliceKeeps.f k l0 l1 = some true := by
  obtain ⟨b, hb, hbl⟩ : ∃ a, l0.take 100 = a ∧ a.length ≤ 100 := ⟨_, rfl, by rw [List.length_take]; omega⟩
  have c0 := cut_some l0 100 (by omega)
  rw [hb] at c0
  obtain ⟨s, hs, hv, hsl, hsx, hst⟩ := splices_some l1 b.length (by omega)
  obtain ⟨K, hK⟩ : ∃ K : Nat, 5000 ≤ K := ⟨5000, Nat.le_refl _⟩
  refine ⟨K, ?_⟩
  unfold scholiumlaw03_SpliceKeeps.f
  rw [show (100 : Int) = ((100 : Nat) : Int) from rfl, c0]
  simp only [Option.bind_some]
  rw [hs K (by omega)]
  simp only [Option.bind_some]
  rw [do_small b s (by omega) (by omega) hv (by omega) K (by omega)]
  simp only [Option.bind_some, if_true]
  exact keeps_l0 b s hbl hsl hv hst (b.length * 20 + 400) (Nat.le_refl _) s.length 0 0 0 K (by omega) (by omega) (by simpa using hv) (by omega) (by omega) (by omega) (by simp only [List.drop_zero]; omega) (by simp)
end Go.Proofs.Ytbaokhcadifdmaa.Pure

/- SpliceBack: for any bytes (cut at 80) and any splices (made valid): what was put in is taken out again by splices at the places where it lies then, which are valid: the text is as it was. No condition. -/
import Derived.Test.YtbaokhcadifdmaaPAllF6
import Derived.Test.YtbaokhcadifdmaaLibMap
import Derived.Test.YtbaokhcadifdmaaOpens
namespace Go.Proofs.Ytbaokhcadifdmaa.Pure
open Go.RowKit Go.Proofs.Ytbaokhcadifdmaa.PAll Go.Proofs.YtbaokhcadifdmaaW.PrintWords Go.Proofs.YtbaokhcadifdmaaW.PrintLast Go.Proofs.YtbaokhcadifdmaaW.Plain

theorem wf_u8_range {x : Int} (h : (Lit.int .u8 x).wf = true) : 0 ≤ x ∧ x < 256 := by
  simp only [Lit.wf, Bool.and_eq_true, decide_eq_true_eq] at h
  have h1 : IntKind.u8.min = 0 := by decide
  have h2 : IntKind.u8.max = 255 := by decide
  omega
theorem bytes_of_str (xs : List Int) (h : ∀ x ∈ xs, 0 ≤ x ∧ x < 256) : bytesOf (strOfNums xs) = xs := by
  unfold bytesOf
  rw [strOfNums_data, List.map_map]
  conv => rhs; rw [← List.map_id xs]
  refine List.map_congr_left (fun x hx => ?_)
  obtain ⟨h0, h1⟩ := h x hx
  simp only [Function.comp, id]
  rw [UInt8.toNat_ofNat']
  omega
/-- The splices that take out again what was put in, 'by' being how much the text has grown so far. -/
def bk (b : List Int) : Int → List S35 → List S35
  | _, [] => []
  | by_, x :: l => ⟨x.f0 + by_, x.f0 + by_ + x.f2.size, strOfNums ((b.take x.f1.toNat).drop x.f0.toNat)⟩ :: bk b (by_ + (x.f2.size - (x.f1 - x.f0))) l
theorem bk_len (b : List Int) : ∀ (l : List S35) (o : Int), (bk b o l).length = l.length
  | [], _ => rfl
  | _ :: l, o => by simp only [bk, List.length_cons, bk_len b l]
theorem bk_sum (b : List Int) : ∀ (l : List S35) (p o : Int), 0 ≤ p → vld b.length p l = true → p ≤ b.length → (sumT (bk b o l) : Int) ≤ b.length - p
  | [], _, _, _, _, _ => by simp only [bk, sumT]; omega
  | x :: l, p, o, hp, hv, hpn => by
    obtain ⟨h0, h1, h2, h3⟩ := vld_cons hv
    have ih := bk_sum b l x.f1 (o + (x.f2.size - (x.f1 - x.f0))) (by omega) h3 h2
    simp only [bk, sumT]
    rw [strOfNums_size, cut_len b _ _ (by omega)]
    omega
theorem back_do (b : List Int) (hb : ∀ x ∈ b, 0 ≤ x ∧ x < 256) : ∀ (l : List S35) (p q : Nat) (o : Int) (out pre : List Int), vld b.length p l = true → p ≤ b.length → (q : Int) = p + o → pre.length = q → out = pre ++ doS b p l →
    vld out.length q (bk b o l) = true ∧ doS out q (bk b o l) = b.drop p
  | [], p, q, o, out, pre, _, _, _, hq, ho => by
    refine ⟨rfl, ?_⟩
    simp only [bk, doS] at ho ⊢
    rw [ho, List.drop_left' hq]
  | x :: l, p, q, o, out, pre, hv, hp, hqo, hq, ho => by
    obtain ⟨h0, h1, h2, h3⟩ := vld_cons hv
    have hf1 : x.f1 = (x.f1.toNat : Int) := (Int.toNat_of_nonneg (by omega)).symm
    have hcl := cut_len b p x.f0.toNat (by omega)
    simp only [doS] at ho
    have hq2 : (pre ++ ((b.take x.f0.toNat).drop p ++ bytesOf x.f2)).length = q + (x.f0.toNat - p) + x.f2.size := by
      rw [List.length_append, List.length_append, hcl, bytesOf_length, hq]
      omega
    obtain ⟨i1, i2⟩ := back_do b hb l x.f1.toNat (q + (x.f0.toNat - p) + x.f2.size) (o + (x.f2.size - (x.f1 - x.f0))) out (pre ++ ((b.take x.f0.toNat).drop p ++ bytesOf x.f2)) (by rw [← hf1]; exact h3) (by omega) (by omega) hq2 (by rw [ho]; simp only [List.append_assoc])
    have hol : q + (x.f0.toNat - p) + x.f2.size ≤ out.length := by
      rw [ho, ← List.append_assoc, List.length_append, hq2]
      omega
    have e0 : x.f0 + o = ((q + (x.f0.toNat - p) : Nat) : Int) := by omega
    have e1 : x.f0 + o + x.f2.size = ((q + (x.f0.toNat - p) + x.f2.size : Nat) : Int) := by omega
    simp only [bk]
    refine ⟨vld_mk (by show (q : Int) ≤ x.f0 + o; omega) (by show x.f0 + o ≤ x.f0 + o + x.f2.size; omega) (by show x.f0 + o + x.f2.size ≤ (out.length : Int); omega) (by show vld _ (x.f0 + o + x.f2.size) _ = true; rw [e1]; exact i1), ?_⟩
    simp only [doS]
    rw [e1, e0]
    simp only [Int.toNat_natCast]
    rw [i2, bytes_of_str _ (fun y hy => hb y (List.mem_of_mem_take (List.mem_of_mem_drop hy)))]
    have hA : (out.take (q + (x.f0.toNat - p))).drop q = (b.take x.f0.toNat).drop p := by
      rw [ho, List.append_assoc, ← List.append_assoc]
      rw [List.take_append_of_le_length (by rw [List.length_append, hq, hcl]; omega), List.take_of_length_le (by rw [List.length_append, hq, hcl]; omega), List.drop_left' hq]
    rw [hA, cut_cut b p x.f0.toNat x.f1.toNat (by omega) (by omega), cut_join b p x.f1.toNat (by omega)]
theorem back_l0 (b : List Int) (s : List S35) (hb : b.length ≤ 80) (hb2 : ∀ x ∈ b, 0 ≤ x ∧ x < 256) (hsl : s.length ≤ 6) (hv : vld b.length 0 s = true) (hst : sumT s ≤ 120) (K0 : Nat) (hK0 : (doS b 0 s).length + b.length + 20 ≤ K0) : ∀ (d j : Nat) (acc : List S35) (z a : Int) (k : Nat), j + d = s.length → d + K0 < k →
    vld b.length a (s.drop j) = true → 0 ≤ a → a ≤ b.length → acc.length = j → -1000 + (b.length - a) ≤ z → z ≤ 1000 - sumT (s.drop j) → acc ++ bk b z (s.drop j) = bk b 0 s →
    scholiumlaw03_SpliceBack.l0 k b s (doS b 0 s) acc z (s.length : Int) (j : Int) = some true := by
  intro d
  induction d with
  | zero =>
    intro j acc z a k hj hk _ _ _ _ _ _ hz
    obtain ⟨k, rfl⟩ : ∃ m, k = m + 1 := ⟨k - 1, by omega⟩
    rw [List.drop_eq_nil_of_le (by omega)] at hz
    simp only [bk, List.append_nil] at hz
    subst hz
    simp only [scholiumlaw03_SpliceBack.l0]
    have hdl := doS_len b s 0 (by omega) hv
    obtain ⟨v1, v2⟩ := back_do b hb2 s 0 0 0 (doS b 0 s) [] (by simpa using hv) (by omega) (by omega) rfl rfl
    have hsum := bk_sum b s 0 0 (by omega) hv (by omega)
    have hlen := bk_len b s 0
    have v1' : vld (doS b 0 s).length 0 (bk b 0 s) = true := v1
    rw [if_neg (by omega), do_small (doS b 0 s) (bk b 0 s) (by omega) (by omega) v1' (by omega) k (by omega)]
    simp only [Option.bind_some, if_true]
    rw [v2, List.drop_zero, same_some b b (by omega) k (by omega)]
    simp only [Option.bind_some, decide_true, if_true]
    rw [valid_some _ _ (by omega) k (by omega), v1']
    simp [scholiumlaw03_wakes.f]
  | succ d ih =>
    intro j acc z a k hj hk hva ha han hacc hz1 hz2 hz
    obtain ⟨k, rfl⟩ : ∃ m, k = m + 1 := ⟨k - 1, by omega⟩
    have e := rdS s j (by omega)
    obtain ⟨x, hx⟩ : ∃ x, rd_T35 s (j : Int) = x := ⟨_, rfl⟩
    rw [hx] at e
    rw [e] at hva hz2 hz
    obtain ⟨h0, h1, h2, h3⟩ := vld_cons hva
    simp only [sumT] at hz2
    simp only [bk] at hz
    have hk1 : d + K0 < k := by omega
    clear hk hK0
    have hac : acc.length < 4398046511104 := Nat.lt_of_le_of_lt (show acc.length ≤ 6 by omega) (by decide)
    have w : wrap64 ((j : Int) + 1) = ((j + 1 : Nat) : Int) := by rw [w64 (by omega) (by omega)]; omega
    have w1 : wrap64 (x.f1 - x.f0) = x.f1 - x.f0 := w64 (by omega) (by omega)
    have w2 : wrap64 ((x.f2.size : Int) - (x.f1 - x.f0)) = (x.f2.size : Int) - (x.f1 - x.f0) := w64 (by omega) (by omega)
    have w3 : wrap64 (z + ((x.f2.size : Int) - (x.f1 - x.f0))) = z + ((x.f2.size : Int) - (x.f1 - x.f0)) := w64 (by omega) (by omega)
    have w4 : wrap64 (x.f0 + z) = x.f0 + z := w64 (by omega) (by omega)
    have w5 : wrap64 (x.f0 + z + x.f2.size) = x.f0 + z + x.f2.size := w64 (by omega) (by omega)
    have hj1 : (j : Int) < (s.length : Int) := by omega
    simp only [scholiumlaw03_SpliceBack.l0, hx]
    rw [if_pos hj1, if_pos (Int.natCast_nonneg j), if_pos hj1, if_pos (by omega), if_pos h1, if_pos h2, if_pos hac, w, w1, w2, w3, w4, w5]
    refine ih (j + 1) _ _ x.f1 k (by omega) hk1 h3 (by omega) h2 (by rw [List.length_append, hacc]; rfl) (by omega) (by omega) ?_
    rw [List.append_assoc]
    exact hz
theorem SpliceBack (l0 : List Int) (l1 : List S35) (_ : l0.length ≤ maxLen) (_ : l0.length * 1 ≤ 140737488351232) (hw : ∀ x ∈ l0, (Lit.int .u8 x).wf = true) (_ : l1.length * 32 ≤ 140737488351232) (_ : ∀ x ∈ l1, Opens.Fine x) :
    ∃ k, scholiumlaw03_SpliceBack.f k l0 l1 = some true := by
  obtain ⟨b, hb, hbl⟩ : ∃ a, l0.take 80 = a ∧ a.length ≤ 80 := ⟨_, rfl, by rw [List.length_take]; omega⟩
  have hb2 : ∀ x ∈ b, 0 ≤ x ∧ x < 256 := by
    intro x hx
    rw [← hb] at hx
    exact wf_u8_range (hw x (List.mem_of_mem_take hx))
  have c0 := cut_some l0 80 (by omega)
  rw [hb] at c0
  obtain ⟨s, hs, hv, hsl, hsx, hst⟩ := splices_some l1 b.length (by omega)
  have hdl := doS_len b s 0 (by omega) hv
  obtain ⟨K, hK⟩ : ∃ K : Nat, (doS b 0 s).length + b.length + 40 + s.length ≤ K := ⟨_, Nat.le_refl _⟩
  refine ⟨K, ?_⟩
  unfold scholiumlaw03_SpliceBack.f
  rw [show (80 : Int) = ((80 : Nat) : Int) from rfl, c0]
  simp only [Option.bind_some]
  rw [hs K (by omega)]
  simp only [Option.bind_some]
  rw [do_small b s (by omega) (by omega) hv (by omega) K (by omega)]
  simp only [Option.bind_some, if_true]
  exact back_l0 b s hbl hb2 hsl hv hst ((doS b 0 s).length + b.length + 20) (Nat.le_refl _) s.length 0 [] 0 0 K (by omega) (by omega) (by simpa using hv) (by omega) (by omega) rfl (by omega) (by simp only [List.drop_zero]; omega) (by simp)
end Go.Proofs.Ytbaokhcadifdmaa.Pure

/- The law SpliceDoes: its calls, walked one by one, and the plain laws that they answer by. -/
import Derived.Test.YtbaokhcadifdmaaLibMerge29
import Derived.Test.YtbaokhcadifdmaaLibLend
import Derived.Test.YtbaokhcadifdmaaLibMap
import Derived.Test.YtbaokhcadifdmaaLibCommon
import Derived.Test.YtbaokhcadifdmaaPAllF26
import Derived.Test.YtbaokhcadifdmaaPAllF31
import Derived.Test.YtbaokhcadifdmaaPAllF28
import Derived.Test.YtbaokhcadifdmaaPAllF24
import Derived.Test.YtbaokhcadifdmaaPAllF20
import Derived.Test.YtbaokhcadifdmaaOpens
set_option linter.unusedVariables false
set_option linter.unusedSimpArgs false
namespace Go.Proofs.Ytbaokhcadifdmaa.Pure
open Go.RowKit Go.Proofs.Ytbaokhcadifdmaa.PAll Go.Proofs.YtbaokhcadifdmaaW.PrintWords Go.Proofs.YtbaokhcadifdmaaW.PrintLast Go.Proofs.YtbaokhcadifdmaaW.PrintMore Go.Proofs.YtbaokhcadifdmaaW.Plain

theorem raw_l (l : List S35) (n : Nat) : ∀ (d : Nat) (acc : List S35) (at_ : Int), acc.length + d = 6 → (∀ x ∈ acc, x.f2.size ≤ 20) →
    ∃ s, (∀ k, 2 * d + 2 ≤ k → scholiumlaw03_Splices.l0 k l (n : Int) true acc at_ (acc.length : Int) = some s) ∧ s.length ≤ 6 ∧ (∀ x ∈ s, x.f2.size ≤ 20) := by
  intro d
  induction d with
  | zero =>
    intro acc at_ hd ht
    refine ⟨acc, fun k hk => ?_, by omega, ht⟩
    obtain ⟨k, rfl⟩ : ∃ m, k = m + 2 := ⟨k - 2, by omega⟩
    simp only [scholiumlaw03_Splices.l0, scholiumlaw03_Splices.j1]
    rw [decide_eq_false (by omega)]
    split <;> rfl
  | succ d ih =>
    intro acc at_ hd ht
    by_cases hlt : (acc.length : Int) < (l.length : Int)
    · obtain ⟨s, hs, h1, h2⟩ := ih (acc ++ [(⟨(rd_T35 l acc.length).f0, (rd_T35 l acc.length).f1, ((rd_T35 l acc.length).f2).extract 0 (min ((rd_T35 l acc.length).f2).size 20)⟩ : S35)]) at_ (by simp; omega) (by
        intro x hx
        rw [List.mem_append, List.mem_singleton] at hx
        rcases hx with hx | rfl
        · exact ht x hx
        · exact text_len _ 20)
      refine ⟨s, fun k hk => ?_, h1, h2⟩
      obtain ⟨k, rfl⟩ : ∃ m, k = m + 2 := ⟨k - 2, by omega⟩
      simp only [scholiumlaw03_Splices.l0, scholiumlaw03_Splices.j1]
      rw [if_pos hlt, decide_eq_true (show (acc.length : Int) < 6 by omega), if_pos rfl, if_pos (by omega), if_pos hlt, show scholiumkeep_Text.f (rd_T35 l acc.length).f2 20 = _ from text_some (rd_T35 l acc.length).f2 20]
      simp only [Option.bind_some, if_true]
      rw [if_pos (by omega), w64 (by omega) (by omega)]
      have := hs k (by omega)
      rw [List.length_append, List.length_singleton, Int.natCast_add, Int.natCast_one] at this
      exact this
    · refine ⟨acc, fun k hk => ?_, by omega, ht⟩
      obtain ⟨k, rfl⟩ : ∃ m, k = m + 2 := ⟨k - 2, by omega⟩
      simp only [scholiumlaw03_Splices.l0, scholiumlaw03_Splices.j1]
      rw [if_neg hlt]
      rfl
theorem splices_any (l : List S35) (n : Nat) (raw : Bool) (hn : n ≤ 100000) : ∃ s, scholiumlaw03_Splices.f 14 l (n : Int) raw = some s ∧ s.length ≤ 6 ∧ (∀ x ∈ s, x.f2.size ≤ 20) ∧ sumT s ≤ 120 := by
  cases raw with
  | false =>
    obtain ⟨s, hs, _, h1, h2, h3⟩ := splices_some l n hn
    exact ⟨s, hs 14 (Nat.le_refl _), h1, h2, h3⟩
  | true =>
    obtain ⟨s, hs, h1, h2⟩ := raw_l l n 6 [] 0 rfl (by simp)
    refine ⟨s, hs 14 (by omega), h1, h2, ?_⟩
    have := sumT_le s 20 h2
    omega
theorem validref_l (n : Int) (l : List S35) (hl : l.length ≤ 9223372036854775806) : ∀ (d k i : Nat) (last : Int), i + d = l.length → d < k → scholiumref01_ValidSplices.l0 k n l last (l.length : Int) (i : Int) = some (vld n last (l.drop i)) := by
  intro d
  induction d with
  | zero =>
    intro k i last hd hk
    obtain ⟨k, rfl⟩ : ∃ m, k = m + 1 := ⟨k - 1, by omega⟩
    simp only [scholiumref01_ValidSplices.l0]
    rw [if_neg (by omega), List.drop_eq_nil_of_le (by omega)]
    rfl
  | succ d ih =>
    intro k i last hd hk
    obtain ⟨k, rfl⟩ : ∃ m, k = m + 1 := ⟨k - 1, by omega⟩
    simp only [scholiumref01_ValidSplices.l0]
    rw [if_pos (by omega), if_pos (by omega), if_pos (by omega), rdS l i (by omega)]
    simp only [vld]
    split
    · rfl
    split
    · rfl
    split
    · rfl
    have h := ih k (i + 1) (rd_T35 l (i : Int)).f1 (by omega) (by omega)
    rw [w64 (by omega) (by omega), show (i : Int) + 1 = ((i + 1 : Nat) : Int) by omega]
    exact h
theorem validref_some (n : Int) (l : List S35) (hl : l.length ≤ 9223372036854775806) (k : Nat) (hk : l.length < k) : scholiumref01_ValidSplices.f k n l = some (vld n 0 l) := by
  have := validref_l n l hl l.length k 0 0 (by omega) hk
  simpa [scholiumref01_ValidSplices.f] using this
theorem ref_l (b : List Int) (l : List S35) (hl : l.length ≤ 1000000000) (hb : b.length ≤ 1000000000) : ∀ (d k i : Nat) (p : Nat) (out : List Int), i + d = l.length → d < k → p ≤ b.length → vld b.length p (l.drop i) = true → out.length + (b.length - p) + sumT (l.drop i) ≤ 100000000000 →
    scholiumref01_Splice.l0 k b l out (p : Int) (l.length : Int) (i : Int) = some (res (out ++ doS b p (l.drop i))) := by
  intro d
  induction d with
  | zero =>
    intro k i p out hd hk hp hv hs
    obtain ⟨k, rfl⟩ : ∃ m, k = m + 1 := ⟨k - 1, by omega⟩
    simp only [scholiumref01_Splice.l0]
    rw [if_neg (by omega), if_pos (by omega), if_pos (by omega), Int.toNat_natCast, if_pos (by rw [List.length_drop]; omega), List.drop_eq_nil_of_le (show l.length ≤ i by omega)]
    rw [show doS b p [] = b.drop p from rfl]
    simp only [Option.bind_some, res]
    by_cases hc : ((out ++ b.drop p).length : Int) > 65536
    · rw [if_pos hc, if_pos hc]
    · rw [if_neg hc, if_neg hc]
  | succ d ih =>
    intro k i p out hd hk hp hv hs
    obtain ⟨k, rfl⟩ : ∃ m, k = m + 1 := ⟨k - 1, by omega⟩
    rw [rdS l i (by omega)] at hv hs ⊢
    obtain ⟨h0, h1, h2, h3⟩ := vld_cons hv
    obtain ⟨x, hx⟩ : ∃ x, rd_T35 l (i : Int) = x := ⟨_, rfl⟩
    simp only [scholiumref01_Splice.l0]
    rw [hx] at h0 h1 h2 h3 hs ⊢
    simp only [sumT] at hs
    have hcl := cut_len b p x.f0.toNat (by omega)
    rw [if_pos (by omega), if_pos (by omega), if_pos (by omega), if_pos (by omega), if_pos (by omega), if_pos (by omega), Int.toNat_natCast, if_pos (by rw [hcl]; omega)]
    simp only [Option.bind_some]
    rw [if_pos (by rw [List.length_append, hcl]; omega), w64 (by omega) (by omega), show (i : Int) + 1 = ((i + 1 : Nat) : Int) by omega]
    have h := ih k (i + 1) x.f1.toNat (out ++ (b.take x.f0.toNat).drop p ++ bytesOf x.f2) (by omega) (by omega) (by omega) (by rw [Int.toNat_of_nonneg (by omega)]; exact h3) (by
      rw [List.length_append, List.length_append, hcl, bytesOf_length]
      omega)
    rw [Int.toNat_of_nonneg (by omega)] at h
    rw [h]
    simp only [doS, List.append_assoc]
theorem ref_some (b : List Int) (l : List S35) (hl : l.length ≤ 1000) (hb : b.length ≤ 10000) (hs : sumT l ≤ 10000) (k : Nat) (hk : l.length < k) :
    ∃ p e, splice_Do.f k b l = some (p, e) ∧ scholiumref01_Splice.f k b l = some (p, e) ∧ p.length ≤ 100000 := by
  cases hv : vld b.length 0 l with
  | true =>
    refine ⟨doS b 0 l, 0, do_small b l hl hb hv hs k hk, ?_, by have := doS_len b l 0 (by omega) hv; omega⟩
    have h := ref_l b l (by omega) (by omega) l.length k 0 0 [] (by omega) hk (by omega) (by simpa using hv) (by simp only [List.drop_zero, List.length_nil]; omega)
    unfold scholiumref01_Splice.f
    rw [validref_some _ l (by omega) k hk, hv]
    simp only [Option.bind_some, if_true]
    have h' : scholiumref01_Splice.l0 k b l [] 0 (l.length : Int) 0 = some (res (doS b 0 l)) := by simpa using h
    rw [h', res_small]
    have := doS_len b l 0 (by omega) hv
    omega
  | false =>
    refine ⟨[], 11, do_bad b l (by omega) hv k hk, ?_, by simp⟩
    unfold scholiumref01_Splice.f
    rw [validref_some _ l (by omega) k hk, hv]
    rfl
theorem mapref_l (n : Int) (i : Int) (hn : n ≤ 1000000000) (l : List S35) (hl : l.length ≤ 1000000000) (_ : sumT l ≤ 1000000000) (hi0 : 0 ≤ i) (hi : i ≤ n) : ∀ (d k j : Nat) (o a : Int), j + d = l.length → 2 * d + 1 < k → vld n a (l.drop j) = true → 0 ≤ a → a ≤ n → -1000000000000 + (n - a) ≤ o → o + sumT (l.drop j) ≤ 1000000000000 →
    scholiumref01_MapOffset.l0 k i l o (l.length : Int) (j : Int) = some (mp i (i + o) (l.drop j)) := by
  intro d
  induction d with
  | zero =>
    intro k j o a hd hk hv ha0 ha1 h1 h2
    obtain ⟨k, rfl⟩ : ∃ m, k = m + 1 := ⟨k - 1, by omega⟩
    simp only [scholiumref01_MapOffset.l0]
    rw [if_neg (by omega), List.drop_eq_nil_of_le (show l.length ≤ j by omega), w64 (by omega) (by omega)]
    rfl
  | succ d ih =>
    intro k j o a hd hk hv ha0 ha1 h1 h2
    obtain ⟨k, rfl⟩ : ∃ m, k = m + 2 := ⟨k - 2, by omega⟩
    rw [rdS l j (by omega)] at hv h2 ⊢
    obtain ⟨g0, g1, g2, g3⟩ := vld_cons hv
    obtain ⟨x, hx⟩ : ∃ x, rd_T35 l (j : Int) = x := ⟨_, rfl⟩
    simp only [scholiumref01_MapOffset.l0, scholiumref01_MapOffset.j1]
    rw [hx] at g0 g1 g2 g3 h2 ⊢
    simp only [sumT] at h2
    simp only [mp]
    rw [if_pos (by omega), if_pos (by omega), if_pos (by omega), w64 (x := (j : Int) + 1) (by omega) (by omega), show (j : Int) + 1 = ((j + 1 : Nat) : Int) by omega]
    by_cases c1 : x.f1 ≤ i
    · rw [if_pos c1, if_pos (show i ≥ x.f0 by omega), decide_eq_false (show ¬ i < x.f1 by omega), if_neg (by simp), if_pos (by omega), if_pos (by omega), if_pos (show i ≥ x.f1 from c1)]
      rw [w64 (x := x.f1 - x.f0) (by omega) (by omega), w64 (x := (x.f2.size : Int) - (x.f1 - x.f0)) (by omega) (by omega), w64 (x := o + ((x.f2.size : Int) - (x.f1 - x.f0))) (by omega) (by omega)]
      rw [ih k (j + 1) (o + ((x.f2.size : Int) - (x.f1 - x.f0))) x.f1 (by omega) (by omega) g3 (by omega) (by omega) (by omega) (by omega)]
      rw [show i + (o + ((x.f2.size : Int) - (x.f1 - x.f0))) = i + o + x.f2.size - (x.f1 - x.f0) by omega]
    · by_cases c0 : x.f0 ≤ i
      · have e : (i ≥ x.f0) = True := eq_true c0
        have e1 : decide (i < x.f1) = true := decide_eq_true (by omega)
        simp only [e, e1, c0, c1, if_true, if_false]
      · have e : (i ≥ x.f0) = False := eq_false (by omega)
        have e1 : (i ≥ x.f1) = False := eq_false (by omega)
        have e2 : ((j : Int) < (l.length : Int)) = True := eq_true (by omega)
        have e3 : (0 ≤ (j : Int)) = True := eq_true (by omega)
        simp only [e, e1, e2, e3, c0, c1, if_true, if_false, Bool.false_eq_true]
        exact ih k (j + 1) o x.f1 (by omega) (by omega) g3 (by omega) (by omega) (by omega) (by omega)
theorem sameS_l (l : List S35) (hb : l.length ≤ 9223372036854775806) : ∀ (d k i : Nat), i + d = l.length → d < k → api_Splice_28.l0 k l l (i : Int) = some true := by
  intro d
  induction d with
  | zero =>
    intro k i hd hk
    obtain ⟨k, rfl⟩ : ∃ m, k = m + 1 := ⟨k - 1, by omega⟩
    simp only [api_Splice_28.l0]
    rw [if_neg (by omega)]
  | succ d ih =>
    intro k i hd hk
    obtain ⟨k, rfl⟩ : ∃ m, k = m + 1 := ⟨k - 1, by omega⟩
    simp only [api_Splice_28.l0]
    rw [if_pos (by omega), if_pos (by omega), if_pos (by omega), if_neg (by simp), w64 (by omega) (by omega), show (i : Int) + 1 = ((i + 1 : Nat) : Int) by omega]
    exact ih k (i + 1) (by omega) (by omega)
theorem sameS_some (l : List S35) (hb : l.length ≤ 1000) (k : Nat) (hk : l.length < k) : api_Splice_28.f k l l = some true := by
  have := sameS_l l (by omega) l.length k 0 (by omega) hk
  unfold api_Splice_28.f
  rw [if_pos rfl]
  exact this
set_option maxHeartbeats 8000000 in
set_option maxRecDepth 100000 in
theorem does_walk (A00 : Option Addr) (c00 : Nat) (L0 : List Int) (A01 : Option Addr) (c01 : Nat) (L1 : List S35) (raw : Bool) (off : Int) (W : World) (hr0 : Kd.C (Kd.int .u8) W A00 L0.length L0) (hc0 : L0.length ≤ c00) (hr1 : Kd.C k35 W A01 L1.length L1) (hc1 : L1.length ≤ c01) :
    Calls Try.prog 9 #[.slice A00 L0.length c00, .slice A01 L1.length c01, .bool raw, .int .i64 off] W fun e w' => e = .returned (.bool true) ∧ Below W.heap.size W w' := by
  obtain ⟨b, hb, hbl⟩ : ∃ a, L0.take 100 = a ∧ a.length ≤ 100 := ⟨_, rfl, by rw [List.length_take]; omega⟩
  have hl0 : scholiumkeep_Cut_byte.f L0 100 = some b := by rw [← hb]; exact cut_some L0 100 (by omega)
  obtain ⟨s, hs, hsl, hsx, hst⟩ := splices_any L1 b.length raw (by omega)
  obtain ⟨p, er, hdo, href, hpl⟩ := ref_some b s (by omega) (by omega) (by omega) 100 (by omega)
  clear hb
  go_enter Try.func9, Try.ntmps9
  go_wp2_with fail
  refine (scholiumkeep_Cut_byte.calls A00 c00 L0 100 b _ hr0 hc0 hl0).mono ?_
  rintro e w1 ⟨v0, rfl, hR0, hb1⟩
  obtain ⟨A0, c0, rfl⟩ := Kd.R_slice hR0
  have HC0 := Aside0.mk (Kd.R_reads' hR0).2.1
  go_wp2_with fail
  refine (scholiumlaw03_Splices.calls 14 A01 c01 L1 _ raw s _ (Kd.C_below hr1 hb1) hc1 hs).mono ?_
  rintro e w2 ⟨v1, rfl, hR1, hb2⟩
  obtain ⟨A1, c1, rfl⟩ := Kd.R_slice hR1
  have HC1 := Aside0.mk (Kd.R_reads' hR1).2.1
  have HR0 := Aside0.mk (Kd.C_below (Kd.R_reads' hR0).2.2 hb2)
  have HR1 := Aside0.mk (Kd.R_reads' hR1).2.2
  have HB := Aside0.mk (below_step hb1 hb2)
  clear hR0 hR1 hb1 hb2 hr0 hr1 hc0 hc1 hl0 hs
  go_wp2_with fail
  refine (api_Splice_24.calls A1 c1 s s _ HR1.out HC1.out (by unfold api_Splice_24.f; rw [if_pos (by simp; omega)]; rfl)).mono ?_
  rintro e w3 ⟨v2, rfl, hR2, hb3⟩
  obtain ⟨A2, c2, rfl⟩ := Kd.R_slice hR2
  have HC2 := Aside0.mk (Kd.R_reads' hR2).2.1
  have HR2 := Aside0.mk (Kd.R_reads' hR2).2.2
  have HR0 := Aside0.mk (Kd.C_below HR0.out hb3)
  have HR1 := Aside0.mk (Kd.C_below HR1.out hb3)
  have HB := Aside0.mk (below_step HB.out hb3)
  clear hR2 hb3
  go_wp2_with fail
  refine (lend_walk A0 c0 b _ HR0.out HC0.out (by omega)).mono ?_
  rintro e w4 ⟨g, rfl, hg, hRx, hb4⟩
  have HX := Aside0.mk (show Kd.C (Kd.int .u8) w4 (some ⟨g, 0, none⟩) (b.length + 3) (b ++ [85, 85, 85]) by have h := (Kd.R_reads' hRx).2.2; rwa [show (b ++ [85, 85, 85] : List Int).length = b.length + 3 by simp] at h)
  have HR0 := Aside0.mk (Kd.C_below HR0.out hb4)
  have HR1 := Aside0.mk (Kd.C_below HR1.out hb4)
  have HR2 := Aside0.mk (Kd.C_below HR2.out hb4)
  have HB := Aside0.mk (below_step HB.out hb4)
  clear hRx hb4 hg
  have HXR := Aside0.mk (fun (w : World) (h : Kd.C (Kd.int .u8) w (some ⟨g, 0, none⟩) (b.length + 3) (b ++ [85, 85, 85])) => (show Kd.C (Kd.int .u8) w (some ⟨g, 0, none⟩) b.length b by
    have h2 := Kd.C_take (xs := b ++ [85, 85, 85]) (m := b.length) (by rwa [show (b ++ [85, 85, 85] : List Int).length = b.length + 3 by simp]) (by simp)
    rwa [List.take_left] at h2))
  go_wp2_with fail
  refine (splice_Do.calls 100 (some ⟨g, 0, none⟩) (b.length + 3) b A2 c2 s p er _ (HXR.out _ HX.out) (by omega) HR2.out HC2.out hdo).mono ?_
  rintro e w5 ⟨v5, rfl, hR5, hb5⟩
  obtain ⟨A5, c5, rfl⟩ := Kd.R_slice hR5
  have HC5 := Aside0.mk (Kd.R_reads' hR5).2.1
  have HR5 := Aside0.mk (Kd.R_reads' hR5).2.2
  have HX := Aside0.mk (Kd.C_below HX.out hb5)
  have HR0 := Aside0.mk (Kd.C_below HR0.out hb5)
  have HR1 := Aside0.mk (Kd.C_below HR1.out hb5)
  have HR2 := Aside0.mk (Kd.C_below HR2.out hb5)
  have HB := Aside0.mk (below_step HB.out hb5)
  clear hR5 hb5
  go_wp2_with fail
  refine (scholiumref01_Splice.calls 100 A0 c0 b A1 c1 s p er _ HR0.out HC0.out HR1.out HC1.out href).mono ?_
  rintro e w6 ⟨v6, rfl, hR6, hb6⟩
  obtain ⟨A6, c6, rfl⟩ := Kd.R_slice hR6
  have HC6 := Aside0.mk (Kd.R_reads' hR6).2.1
  have HR6 := Aside0.mk (Kd.R_reads' hR6).2.2
  have HX := Aside0.mk (Kd.C_below HX.out hb6)
  have HR0 := Aside0.mk (Kd.C_below HR0.out hb6)
  have HR1 := Aside0.mk (Kd.C_below HR1.out hb6)
  have HR2 := Aside0.mk (Kd.C_below HR2.out hb6)
  have HR5 := Aside0.mk (Kd.C_below HR5.out hb6)
  have HB := Aside0.mk (below_step HB.out hb6)
  clear hR6 hb6 hdo href
  go_wp2_with fail
  refine (scholiumkeep_Same_byte.calls 100001 A5 c5 p A6 c6 p true _ HR5.out HC5.out HR6.out HC6.out (by rw [same_some p p (by omega) 100001 (by omega)]; simp)).mono ?_
  rintro e w7 ⟨rfl, hb7d⟩
  have hb7 := hb7d.below
  have HR0 := Aside0.mk (Kd.C_below HR0.out hb7)
  have HR1 := Aside0.mk (Kd.C_below HR1.out hb7)
  have HR2 := Aside0.mk (Kd.C_below HR2.out hb7)
  have HX := Aside0.mk (Kd.C_below HX.out hb7)
  have HB := Aside0.mk (below_step HB.out hb7)
  clear hb7 hb7d HR5 HR6 HC5 HC6
  go_wp2_with fail
  obtain ⟨v, hv⟩ : ∃ v, vld b.length 0 s = v := ⟨_, rfl⟩
  refine (splice_Valid.calls 100 _ A2 c2 s v _ HR2.out HC2.out (by rw [← hv]; exact valid_some _ s (by omega) 100 (by omega))).mono ?_
  rintro e w8 ⟨rfl, hb8⟩
  have HR0 := Aside0.mk (Kd.C_below HR0.out hb8)
  have HR1 := Aside0.mk (Kd.C_below HR1.out hb8)
  have HR2 := Aside0.mk (Kd.C_below HR2.out hb8)
  have HX := Aside0.mk (Kd.C_below HX.out hb8)
  have HB := Aside0.mk (below_step HB.out hb8)
  clear hb8
  go_wp2_with fail
  refine (scholiumref01_ValidSplices.calls 100 _ A1 c1 s v _ HR1.out HC1.out (by rw [← hv]; exact validref_some _ s (by omega) 100 (by omega))).mono ?_
  rintro e w9 ⟨rfl, hb9d⟩
  have hb9 := hb9d.below
  have HR0 := Aside0.mk (Kd.C_below HR0.out hb9)
  have HR1 := Aside0.mk (Kd.C_below HR1.out hb9)
  have HR2 := Aside0.mk (Kd.C_below HR2.out hb9)
  have HX := Aside0.mk (Kd.C_below HX.out hb9)
  have HB := Aside0.mk (below_step HB.out hb9)
  clear hb9 hb9d
  have HV := Aside0.mk hv
  clear hv
  go_wp2_with fail
  refine (merge_walk A2 c2 s _ HR2.out HC2.out (by omega)).mono ?_
  rintro e w10 ⟨v10, rfl, hR10, hb10⟩
  obtain ⟨A10, c10, rfl⟩ := Kd.R_slice hR10
  have HC10 := Aside0.mk (Kd.R_reads' hR10).2.1
  have HR10 := Aside0.mk (Kd.R_reads' hR10).2.2
  have HR0 := Aside0.mk (Kd.C_below HR0.out hb10)
  have HR1 := Aside0.mk (Kd.C_below HR1.out hb10)
  have HR2 := Aside0.mk (Kd.C_below HR2.out hb10)
  have HX := Aside0.mk (Kd.C_below HX.out hb10)
  have HB := Aside0.mk (below_step HB.out hb10)
  clear hR10 hb10
  go_wp2_with fail
  refine (merge29_walk A1 c1 s _ HR1.out HC1.out (by omega)).mono ?_
  rintro e w11 ⟨v11, rfl, hR11, hb11⟩
  obtain ⟨A11, c11, rfl⟩ := Kd.R_slice hR11
  have HC11 := Aside0.mk (Kd.R_reads' hR11).2.1
  have HR11 := Aside0.mk (Kd.R_reads' hR11).2.2
  have HR10 := Aside0.mk (Kd.C_below HR10.out hb11)
  have HR0 := Aside0.mk (Kd.C_below HR0.out hb11)
  have HR1 := Aside0.mk (Kd.C_below HR1.out hb11)
  have HR2 := Aside0.mk (Kd.C_below HR2.out hb11)
  have HX := Aside0.mk (Kd.C_below HX.out hb11)
  have HB := Aside0.mk (below_step HB.out hb11)
  clear hR11 hb11
  go_wp2_with fail
  refine (api_Splice_28.calls 100 A10 c10 (srt s) A11 c11 (srt s) true _ HR10.out HC10.out HR11.out HC11.out (sameS_some _ (by rw [srt_length]; omega) 100 (by rw [srt_length]; omega))).mono ?_
  rintro e w12 ⟨rfl, hb12d⟩
  have hb12 := hb12d.below
  have HR0 := Aside0.mk (Kd.C_below HR0.out hb12)
  have HR1 := Aside0.mk (Kd.C_below HR1.out hb12)
  have HR2 := Aside0.mk (Kd.C_below HR2.out hb12)
  have HX := Aside0.mk (Kd.C_below HX.out hb12)
  have HB := Aside0.mk (below_step HB.out hb12)
  clear hb12 hb12d HR10 HR11 HC10 HC11
  go_wp2_with fail
  refine (api_Splice_28.calls 100 A1 c1 s A2 c2 s true _ HR1.out HC1.out HR2.out HC2.out (sameS_some _ (by omega) 100 (by omega))).mono ?_
  rintro e w13 ⟨rfl, hb13d⟩
  have hb13 := hb13d.below
  have HR0 := Aside0.mk (Kd.C_below HR0.out hb13)
  have HR1 := Aside0.mk (Kd.C_below HR1.out hb13)
  have HR2 := Aside0.mk (Kd.C_below HR2.out hb13)
  have HX := Aside0.mk (Kd.C_below HX.out hb13)
  have HB := Aside0.mk (below_step HB.out hb13)
  clear hb13 hb13d
  go_wp2_with fail
  refine (intact_walk g A0 c0 b _ HX.out HR0.out HC0.out (by omega)).mono ?_
  rintro e w14 ⟨rfl, hb14⟩
  have HR0 := Aside0.mk (Kd.C_below HR0.out hb14)
  have HR1 := Aside0.mk (Kd.C_below HR1.out hb14)
  have HR2 := Aside0.mk (Kd.C_below HR2.out hb14)
  have HB := Aside0.mk (below_step HB.out hb14)
  clear hb14 HX
  go_wp2_with fail
  refine (scholiumref01_ValidSplices.calls 100 _ A1 c1 s v _ HR1.out HC1.out (by rw [← HV.out]; exact validref_some _ s (by omega) 100 (by omega))).mono ?_
  rintro e w15 ⟨rfl, hb15d⟩
  have hb15 := hb15d.below
  have HR0 := Aside0.mk (Kd.C_below HR0.out hb15)
  have HR1 := Aside0.mk (Kd.C_below HR1.out hb15)
  have HR2 := Aside0.mk (Kd.C_below HR2.out hb15)
  have HB := Aside0.mk (below_step HB.out hb15)
  clear hb15 hb15d
  cases v with
  | false =>
    go_wp2_with fail
    refine (scholiumlaw03_wakes.calls true _ rfl).mono ?_
    rintro e w16 ⟨rfl, hb16⟩
    have HB := Aside0.mk (below_step HB.out hb16)
    go_wp2
    go_ret
    exact ⟨rfl, HB.out⟩
  | true =>
    go_wp2_with fail
    obtain ⟨i, hi, hi0, hi1⟩ := within_some off ((b.length : Int) + 1) (by omega) (by omega)
    refine (scholiumkeep_Within.calls off _ i _ (by first | exact hi | (rw [w64 (by omega) (by omega)]; exact hi))).mono ?_
    rintro e w16 ⟨rfl, hb16⟩
    have HR1 := Aside0.mk (Kd.C_below HR1.out hb16)
    have HR2 := Aside0.mk (Kd.C_below HR2.out hb16)
    have HB := Aside0.mk (below_step HB.out hb16)
    clear hb16 hi
    obtain ⟨⟨m, ok⟩, hm⟩ : ∃ q, mp i i s = q := ⟨_, rfl⟩
    have hmap : splice_Map.f 100 i s = some (m, ok) := by rw [← hm]; exact map_some b.length i hi0 (by omega) (by omega) s (by omega) (by omega) HV.out 100 (by omega)
    have hmref : scholiumref01_MapOffset.f 100 i s = some (m, ok) := by
      have h := mapref_l b.length i (by omega) s (by omega) (by omega) hi0 (by omega) s.length 100 0 0 0 (by omega) (by omega) (by simpa using HV.out) (by omega) (by omega) (by omega) (by simp only [List.drop_zero]; omega)
      rw [Int.add_zero, List.drop_zero, hm] at h
      exact h
    clear hm
    go_wp2_with fail
    refine (splice_Map.calls 100 i A2 c2 s m ok _ HR2.out HC2.out hmap).mono ?_
    rintro e w17 ⟨rfl, hb17⟩
    have HR1 := Aside0.mk (Kd.C_below HR1.out hb17)
    have HB := Aside0.mk (below_step HB.out hb17)
    clear hb17
    go_wp2_with fail
    refine (scholiumref01_MapOffset.calls 100 i A1 c1 s m ok _ HR1.out HC1.out hmref).mono ?_
    rintro e w18 ⟨rfl, hb18d⟩
    have HB := Aside0.mk (below_step HB.out hb18d.below)
    clear hb18d hmap hmref
    go_wp2_with fail
    refine (scholiumlaw03_wakes.calls true _ rfl).mono ?_
    rintro e w19 ⟨rfl, hb19⟩
    have HB := Aside0.mk (below_step HB.out hb19)
    go_wp2
    go_ret
    exact ⟨rfl, HB.out⟩
theorem SpliceDoes (A0 : Option Addr) (c0 : Nat) (l0 : List Int) (A1 : Option Addr) (c1 : Nat) (l1 : List S35) (raw : Bool) (off : Int) (W : World) (hr0 : Kd.C (Kd.int .u8) W A0 l0.length l0) (hc0 : l0.length ≤ c0) (hr1 : Kd.C k35 W A1 l1.length l1) (hc1 : l1.length ≤ c1)
    (_ : l0.length ≤ maxLen) (_ : l0.length * 1 ≤ 140737488351232) (_ : ∀ x ∈ l0, (Lit.int .u8 x).wf = true) (_ : l1.length * 32 ≤ 140737488351232) (_ : ∀ x ∈ l1, Opens.Fine x) (_ : (Lit.int .i64 off).wf = true) :
    Calls Try.prog 9 #[.slice A0 l0.length c0, .slice A1 l1.length c1, .bool raw, .int .i64 off] W fun e w' => e = .returned (.bool true) ∧ Below W.heap.size W w' :=
  does_walk A0 c0 l0 A1 c1 l1 raw off W hr0 hc0 hr1 hc1
end Go.Proofs.Ytbaokhcadifdmaa.Pure

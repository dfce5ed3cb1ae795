/- What the printed functions Valid, Do, Text, Within and Splices come to, in plain words ('vld', 'doS'). -/
import Derived.Test.YtbaokhcadifdmaaPAllF21
import Derived.Test.YtbaokhcadifdmaaPAllF18
import Derived.Test.YtbaokhcadifdmaaLibCommon
namespace Go.Proofs.Ytbaokhcadifdmaa.Pure
open Go.RowKit Go.Proofs.Ytbaokhcadifdmaa.PAll Go.Proofs.YtbaokhcadifdmaaW.PrintWords Go.Proofs.YtbaokhcadifdmaaW.PrintLast Go.Proofs.YtbaokhcadifdmaaW.PrintMore Go.Proofs.YtbaokhcadifdmaaW.Plain

/-- May splices be done with n bytes, from 'last' on? -/
def vld (n : Int) : Int → List S35 → Bool
  | _, [] => true
  | last, s :: l => if s.f0 < last then false else if s.f1 < s.f0 then false else if s.f1 > n then false else vld n s.f1 l
/-- What comes of b's bytes from 'p' on. -/
def doS (b : List Int) : Nat → List S35 → List Int
  | p, [] => b.drop p
  | p, s :: l => (b.take s.f0.toNat).drop p ++ bytesOf s.f2 ++ doS b s.f1.toNat l
/-- How many bytes the texts have. -/
def sumT : List S35 → Nat
  | [] => 0
  | s :: l => s.f2.size + sumT l
theorem vld_cons {n last : Int} {s : S35} {l : List S35} (h : vld n last (s :: l) = true) : last ≤ s.f0 ∧ s.f0 ≤ s.f1 ∧ s.f1 ≤ n ∧ vld n s.f1 l = true := by
  simp only [vld] at h
  split at h
  · cases h
  · split at h
    · cases h
    · split at h
      · cases h
      · exact ⟨by omega, by omega, by omega, h⟩
theorem vld_mk {n last : Int} {s : S35} {l : List S35} (h0 : last ≤ s.f0) (h1 : s.f0 ≤ s.f1) (h2 : s.f1 ≤ n) (h : vld n s.f1 l = true) : vld n last (s :: l) = true := by
  simp only [vld]
  rw [if_neg (by omega), if_neg (by omega), if_neg (by omega)]
  exact h
theorem vld_lower {n a b : Int} : ∀ {l : List S35}, b ≤ a → vld n a l = true → vld n b l = true
  | [], _, _ => rfl
  | _ :: _, h, hv => by
    obtain ⟨h0, h1, h2, h3⟩ := vld_cons hv
    exact vld_mk (by omega) h1 h2 h3
theorem vld_drop {n : Int} : ∀ {l : List S35} {a : Int} (i : Nat), vld n a l = true → vld n a (l.drop i) = true
  | _, _, 0, h => h
  | [], _, _ + 1, _ => rfl
  | _ :: _, a, i + 1, h => by
    obtain ⟨h0, h1, _, h3⟩ := vld_cons h
    exact vld_lower (by omega) (vld_drop i h3)
theorem rdS (l : List S35) (i : Nat) (hi : i < l.length) : l.drop i = rd_T35 l (i : Int) :: l.drop (i + 1) := by
  rw [List.drop_eq_getElem_cons hi]
  simp [rd_T35, List.getD_eq_getElem?_getD, List.getElem?_eq_getElem hi]
theorem valid_l (n : Int) (l : List S35) (hl : l.length ≤ 9223372036854775806) : ∀ (d k i : Nat) (last : Int), i + d = l.length → d < k → splice_Valid.l0 k n last l (l.length : Int) (i : Int) = some (vld n last (l.drop i)) := by
  intro d
  induction d with
  | zero =>
    intro k i last hi hk
    obtain ⟨k, rfl⟩ : ∃ m, k = m + 1 := ⟨k - 1, by omega⟩
    simp only [splice_Valid.l0]
    rw [if_neg (by omega), List.drop_eq_nil_of_le (by omega)]
    rfl
  | succ d ih =>
    intro k i last hi hk
    obtain ⟨k, rfl⟩ : ∃ m, k = m + 1 := ⟨k - 1, by omega⟩
    simp only [splice_Valid.l0]
    rw [if_pos (by omega), if_pos (by omega), if_pos (by omega), rdS l i (by omega), w64 (by omega) (by omega), show ((i : Int) + 1) = ((i + 1 : Nat) : Int) by omega]
    simp only [vld]
    rw [ih k (i + 1) _ (by omega) (by omega)]
    split
    · rfl
    · split
      · rfl
      · split <;> rfl
theorem valid_some (n : Int) (l : List S35) (hl : l.length ≤ 9223372036854775806) (k : Nat) (hk : l.length < k) : splice_Valid.f k n l = some (vld n 0 l) := by
  have := valid_l n l hl l.length k 0 0 (by omega) hk
  simpa [splice_Valid.f] using this
/-- The piece of b between two places, and what lies behind. -/
theorem cut_join (b : List Int) (p q : Nat) (h : p ≤ q) : (b.take q).drop p ++ b.drop q = b.drop p := by
  conv => rhs; rw [← List.take_append_drop q b, List.drop_append]
  congr 1
  rw [List.length_take]
  by_cases hq : q ≤ b.length
  · rw [show p - min q b.length = 0 by omega]
    rfl
  · rw [List.drop_eq_nil_of_le (show b.length ≤ q by omega)]
    simp
theorem cut_cut (b : List Int) (o p q : Nat) (h0 : o ≤ p) (h : p ≤ q) : (b.take p).drop o ++ (b.take q).drop p = (b.take q).drop o := by
  have := cut_join (b.take q) o p h0
  rwa [List.take_take, Nat.min_eq_left h] at this
theorem cut_len (b : List Int) (p q : Nat) (hq : q ≤ b.length) : ((b.take q).drop p).length = q - p := by
  rw [List.length_drop, List.length_take, Nat.min_eq_left hq]
theorem doS_split (b : List Int) : ∀ (l : List S35) (p q : Nat), p ≤ q → vld b.length q l = true → doS b p l = (b.take q).drop p ++ doS b q l
  | [], p, q, h, _ => by simp only [doS]; exact (cut_join b p q h).symm
  | s :: l, p, q, h, hv => by
    obtain ⟨h0, h1, h2, h3⟩ := vld_cons hv
    simp only [doS]
    rw [← cut_cut b p q s.f0.toNat h (by omega)]
    simp only [List.append_assoc]
theorem doS_len (b : List Int) : ∀ (l : List S35) (p : Nat), p ≤ b.length → vld b.length p l = true → (doS b p l).length ≤ b.length - p + sumT l
  | [], p, _, _ => by simp [doS, sumT]
  | s :: l, p, hp, hv => by
    obtain ⟨h0, h1, h2, h3⟩ := vld_cons hv
    have ih := doS_len b l s.f1.toNat (by omega) (by rw [Int.toNat_of_nonneg (by omega)]; exact h3)
    simp only [doS, sumT, List.length_append, bytesOf_length]
    rw [cut_len b p s.f0.toNat (by omega)]
    omega
/-- What Do answers, from some state on. -/
def res (t : List Int) : List Int × Int := if (t.length : Int) > 65536 then ([], 10) else (t, 0)
theorem do_l (b : List Int) (l : List S35) (hl : l.length ≤ 1000000000) (hb : b.length ≤ 1000000000) : ∀ (d k i : Nat) (p : Nat) (out : List Int), i + d = l.length → d < k → p ≤ b.length → vld b.length p (l.drop i) = true → out.length + (b.length - p) + sumT (l.drop i) ≤ 100000000000 →
    splice_Do.l0 k b out (p : Int) l (l.length : Int) (i : Int) = some (res (out ++ doS b p (l.drop i))) := by
  intro d
  induction d with
  | zero =>
    intro k i p out hi hk hp hv hs
    obtain ⟨k, rfl⟩ : ∃ m, k = m + 1 := ⟨k - 1, by omega⟩
    simp only [splice_Do.l0]
    rw [if_neg (by omega), if_pos (by omega), if_pos (by omega), List.drop_eq_nil_of_le (show l.length ≤ i by omega)]
    simp only [Int.toNat_natCast, doS]
    rw [if_pos (by rw [List.length_drop]; omega)]
    simp only [Option.bind_some, res]
    split <;> rfl
  | succ d ih =>
    intro k i p out hi hk hp hv hs
    obtain ⟨k, rfl⟩ : ∃ m, k = m + 1 := ⟨k - 1, by omega⟩
    have e := rdS l i (by omega)
    obtain ⟨s, hs0⟩ : ∃ s, rd_T35 l (i : Int) = s := ⟨_, rfl⟩
    rw [hs0] at e
    rw [e] at hv hs
    obtain ⟨h0, h1, h2, h3⟩ := vld_cons hv
    simp only [sumT] at hs
    simp only [splice_Do.l0, hs0]
    rw [if_pos (by omega), if_pos (by omega), if_pos (by omega), if_pos (by omega), if_pos (by omega), if_pos (by omega)]
    simp only [Int.toNat_natCast]
    have hcl := cut_len b p s.f0.toNat (by omega)
    rw [if_pos (by rw [hcl]; omega)]
    simp only [Option.bind_some]
    rw [if_pos (by rw [List.length_append, hcl]; omega)]
    rw [e]
    simp only [doS]
    have hlen : (out ++ (b.take s.f0.toNat).drop p ++ bytesOf s.f2).length = out.length + (s.f0.toNat - p) + s.f2.size := by
      rw [List.length_append, List.length_append, hcl, bytesOf_length]
    by_cases hc : ((out ++ (b.take s.f0.toNat).drop p ++ bytesOf s.f2).length : Int) > 65536
    · rw [if_pos hc]
      simp only [res]
      rw [if_pos]
      rw [show out ++ ((b.take s.f0.toNat).drop p ++ bytesOf s.f2 ++ doS b s.f1.toNat (l.drop (i + 1))) = (out ++ (b.take s.f0.toNat).drop p ++ bytesOf s.f2) ++ doS b s.f1.toNat (l.drop (i + 1)) by simp only [List.append_assoc], List.length_append]
      omega
    · rw [if_neg hc]
      have hq : s.f1 = (s.f1.toNat : Int) := (Int.toNat_of_nonneg (by omega)).symm
      rw [w64 (by omega) (by omega), show ((i : Int) + 1) = ((i + 1 : Nat) : Int) by omega]
      conv => lhs; rw [hq]
      rw [ih k (i + 1) s.f1.toNat _ (by omega) (by omega) (by omega) (by rw [← hq]; exact h3) (by rw [hlen]; omega)]
      simp only [List.append_assoc]
theorem do_some (b : List Int) (l : List S35) (hl : l.length ≤ 1000000000) (hb : b.length ≤ 1000000000) (hv : vld b.length 0 l = true) (hs : sumT l ≤ 90000000000) (k : Nat) (hk : l.length < k) :
    splice_Do.f k b l = some (res (doS b 0 l)) := by
  unfold splice_Do.f
  rw [valid_some _ l (by omega) k hk, hv]
  simp only [Option.bind_some, if_true]
  have := do_l b l hl hb l.length k 0 0 [] (by omega) hk (by omega) hv (by simp only [List.length_nil, List.drop_zero]; omega)
  simpa using this
theorem do_bad (b : List Int) (l : List S35) (hl : l.length ≤ 1000000000) (hv : vld b.length 0 l = false) (k : Nat) (hk : l.length < k) :
    splice_Do.f k b l = some ([], 11) := by
  unfold splice_Do.f
  rw [valid_some _ l (by omega) k hk, hv]
  simp
theorem res_small (t : List Int) (h : t.length ≤ 65536) : res t = (t, 0) := by
  unfold res
  rw [if_neg (by omega)]
/-- The whole where all is small. -/
theorem do_small (b : List Int) (l : List S35) (hl : l.length ≤ 1000) (hb : b.length ≤ 10000) (hv : vld b.length 0 l = true) (hs : sumT l ≤ 10000) (k : Nat) (hk : l.length < k) :
    splice_Do.f k b l = some (doS b 0 l, 0) := by
  rw [do_some b l (by omega) (by omega) hv (by omega) k hk, res_small]
  have := doS_len b l 0 (by omega) hv
  omega

theorem within_some (v : Int) (n : Int) (h1 : 1 ≤ n) (h2 : n ≤ 4611686018427387904) : ∃ r, scholiumkeep_Within.f v n = some r ∧ 0 ≤ r ∧ r < n := by
  unfold scholiumkeep_Within.f
  rw [if_neg (by omega), if_neg (by omega)]
  have hlt := Int.tmod_lt_of_pos v (show 0 < n by omega)
  have hgt : -n < Int.tmod v n := by
    have := Int.tmod_lt_of_pos (-v) (show 0 < n by omega)
    rw [Int.neg_tmod] at this
    omega
  by_cases h : Int.tmod v n < 0
  · rw [if_pos h, w64 (by omega) (by omega)]
    exact ⟨_, rfl, by omega, by omega⟩
  · rw [if_neg h]
    exact ⟨_, rfl, by omega, hlt⟩
theorem within_zero (v n : Int) (h : n < 1) : scholiumkeep_Within.f v n = some 0 := by
  unfold scholiumkeep_Within.f
  rw [if_pos h]
theorem text_some (s : ByteArray) (n : Nat) : scholiumkeep_Text.f s (n : Int) = some (s.extract 0 (min s.size n)) := by
  unfold scholiumkeep_Text.f
  rw [mn_eq, if_pos (by omega), if_pos (by omega), show (min (s.size : Int) (n : Int)).toNat = min s.size n by omega]
theorem text_len (s : ByteArray) (n : Nat) : (s.extract 0 (min s.size n)).size ≤ n := by
  rw [ByteArray.size_extract]
  omega
theorem vld_snoc {n : Int} : ∀ {l : List S35} {a last : Int} {x : S35}, vld n a l = true → (∀ y, l.getLast? = some y → y.f1 = last) → (l = [] → a = last) → last ≤ x.f0 → x.f0 ≤ x.f1 → x.f1 ≤ n → vld n a (l ++ [x]) = true
  | [], a, last, x, _, _, h2, h3, h4, h5 => by
    have := h2 rfl
    exact vld_mk (by omega) h4 h5 rfl
  | s :: l, a, last, x, hv, h1, _, h3, h4, h5 => by
    obtain ⟨g0, g1, g2, g3⟩ := vld_cons hv
    rw [List.cons_append]
    refine vld_mk g0 g1 g2 (vld_snoc (last := last) g3 ?_ ?_ h3 h4 h5)
    · intro y hy
      refine h1 y ?_
      cases l with
      | nil => simp at hy
      | cons c l => simpa using hy
    · intro hnil
      subst hnil
      exact h1 s rfl
/-- What 'Splices' hands on, as it stands so far. -/
structure SpInv (n : Nat) (acc : List S35) (at_ : Int) : Prop where
  v : vld n 0 acc = true
  last : ∀ y, acc.getLast? = some y → y.f1 = at_
  none : acc = [] → (0 : Int) = at_
  lo : 0 ≤ at_
  hi : at_ ≤ n
  text : ∀ x ∈ acc, x.f2.size ≤ 20
  width : ∀ x ∈ acc, x.f1 - x.f0 ≤ 9
theorem splices_l (l : List S35) (n : Nat) (hn : n ≤ 100000) : ∀ (d : Nat) (acc : List S35) (at_ : Int), acc.length + d = 6 → SpInv n acc at_ →
    ∃ s a, (∀ k, 2 * d + 2 ≤ k → scholiumlaw03_Splices.l0 k l (n : Int) false acc at_ (acc.length : Int) = some s) ∧ SpInv n s a ∧ s.length ≤ 6 := by
  intro d
  induction d with
  | zero =>
    intro acc at_ hd hI
    refine ⟨acc, at_, fun k hk => ?_, hI, by omega⟩
    obtain ⟨k, rfl⟩ : ∃ m, k = m + 1 + 1 := ⟨k - 2, by omega⟩
    simp only [scholiumlaw03_Splices.l0, scholiumlaw03_Splices.j1]
    rw [decide_eq_false (by omega)]
    simp
  | succ d ih =>
    intro acc at_ hd hI
    by_cases hlt : (acc.length : Int) < (l.length : Int)
    · obtain ⟨x, hx⟩ : ∃ x, rd_T35 l (acc.length : Int) = x := ⟨_, rfl⟩
      have hlo := hI.lo
      have hhi := hI.hi
      have e1 : wrap64 (wrap64 ((n : Int) - at_) + 1) = (n : Int) - at_ + 1 := by rw [w64 (x := (n : Int) - at_) (by omega) (by omega), w64 (by omega) (by omega)]
      obtain ⟨r, hr, hr0, hr1⟩ := within_some x.f0 ((n : Int) - at_ + 1) (by omega) (by omega)
      have e2 : wrap64 (at_ + r) = at_ + r := w64 (by omega) (by omega)
      have e3 : wrap64 (mn (wrap64 ((n : Int) - (at_ + r))) 9 + 1) = min ((n : Int) - (at_ + r)) 9 + 1 := by
        rw [w64 (x := (n : Int) - (at_ + r)) (by omega) (by omega), mn_eq, w64 (by omega) (by omega)]
      obtain ⟨q, hq, hq0, hq1⟩ := within_some x.f1 (min ((n : Int) - (at_ + r)) 9 + 1) (by omega) (by omega)
      have e4 : wrap64 (at_ + r + q) = at_ + r + q := w64 (by omega) (by omega)
      have ht := text_some x.f2 20
      have htl := text_len x.f2 20
      obtain ⟨tx, htx⟩ : ∃ t, x.f2.extract 0 (min x.f2.size 20) = t := ⟨_, rfl⟩
      rw [htx] at ht htl
      have hI' : SpInv n (acc ++ [⟨at_ + r, at_ + r + q, tx⟩]) (at_ + r + q) := by
        refine ⟨vld_snoc (last := at_) hI.v hI.last hI.none (by show at_ ≤ at_ + r; omega) (by show at_ + r ≤ at_ + r + q; omega) (by show at_ + r + q ≤ (n : Int); omega), fun y hy => ?_, fun h => by simp at h, by omega, by omega, fun y hy => ?_, fun y hy => ?_⟩
        · simp at hy
          subst hy
          rfl
        · rw [List.mem_append, List.mem_singleton] at hy
          rcases hy with hy | rfl
          · exact hI.text y hy
          · exact htl
        · rw [List.mem_append, List.mem_singleton] at hy
          rcases hy with hy | rfl
          · exact hI.width y hy
          · show at_ + r + q - (at_ + r) ≤ 9
            omega
      obtain ⟨s, a, hs, hIs, hsl⟩ := ih (acc ++ [⟨at_ + r, at_ + r + q, tx⟩]) (at_ + r + q) (by rw [List.length_append]; simp; omega) hI'
      refine ⟨s, a, fun k hk => ?_, hIs, hsl⟩
      obtain ⟨k, rfl⟩ : ∃ m, k = m + 1 + 1 := ⟨k - 2, by omega⟩
      simp only [scholiumlaw03_Splices.l0, scholiumlaw03_Splices.j1]
      rw [if_pos hlt, decide_eq_true (show (acc.length : Int) < 6 by omega), if_pos rfl, if_pos (by omega), if_pos hlt, hx, show (20 : Int) = ((20 : Nat) : Int) from rfl, ht]
      simp only [Option.bind_some]
      rw [if_neg (by simp), e1, hr]
      simp only [Option.bind_some]
      rw [e2, e3, hq]
      simp only [Option.bind_some]
      rw [if_pos (by omega), e4, w64 (by omega) (by omega)]
      have := hs k (by omega)
      rw [List.length_append] at this
      simpa using this
    · refine ⟨acc, at_, fun k hk => ?_, hI, by omega⟩
      obtain ⟨k, rfl⟩ : ∃ m, k = m + 1 + 1 := ⟨k - 2, by omega⟩
      simp only [scholiumlaw03_Splices.l0, scholiumlaw03_Splices.j1]
      rw [if_neg hlt]
      simp
theorem sumT_le : ∀ (s : List S35) (c : Nat), (∀ x ∈ s, x.f2.size ≤ c) → sumT s ≤ c * s.length
  | [], c, _ => by simp [sumT]
  | x :: s, c, h => by
    have := sumT_le s c (fun y hy => h y (List.mem_cons_of_mem _ hy))
    have := h x List.mem_cons_self
    simp only [sumT, List.length_cons, Nat.mul_succ]
    omega
/-- Valid splices come of any. -/
theorem splices_some (l : List S35) (n : Nat) (hn : n ≤ 100000) : ∃ s, (∀ k, 14 ≤ k → scholiumlaw03_Splices.f k l (n : Int) false = some s) ∧ vld n 0 s = true ∧ s.length ≤ 6 ∧ (∀ x ∈ s, x.f2.size ≤ 20) ∧ sumT s ≤ 120 := by
  obtain ⟨s, a, hs, hI, hl⟩ := splices_l l n hn 6 [] 0 rfl ⟨rfl, by simp, fun _ => rfl, by omega, by omega, by simp, by simp⟩
  refine ⟨s, fun k hk => ?_, hI.v, hl, hI.text, ?_⟩
  · have := hs k (by omega)
    simpa [scholiumlaw03_Splices.f] using this
  · have := sumT_le s 20 hI.text
    omega
end Go.Proofs.Ytbaokhcadifdmaa.Pure

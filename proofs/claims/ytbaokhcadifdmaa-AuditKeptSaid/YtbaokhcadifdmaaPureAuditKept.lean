/- AuditKept: what the loop makes is what the splices make (doS), so Kept says yes to it, and no to any other text. -/
import Derived.Test.YtbaokhcadifdmaaWalkKept
import Derived.Test.YtbaokhcadifdmaaOpens
set_option linter.unusedVariables false
namespace Go.Proofs.Ytbaokhcadifdmaa.Pure
open Go.RowKit Go.Proofs.Ytbaokhcadifdmaa.PAll Go.Proofs.YtbaokhcadifdmaaW.PrintWords Go.Proofs.YtbaokhcadifdmaaW.PrintLast Go.Proofs.YtbaokhcadifdmaaW.Plain

theorem splices25_l (l : List S35) (n : Nat) (hn : n ≤ 100000) : ∀ (d : Nat) (acc : List S35) (at_ : Int), acc.length + d = 5 → SpInv n acc at_ →
    ∃ s a, (∀ k, 2 * d + 2 ≤ k → scholiumlaw25_splices.l0 k l (n : Int) acc at_ (acc.length : Int) = some s) ∧ SpInv n s a ∧ s.length ≤ 5 := by
  intro d
  induction d with
  | zero =>
    intro acc at_ hd hI
    refine ⟨acc, at_, fun k hk => ?_, hI, by omega⟩
    obtain ⟨k, rfl⟩ : ∃ m, k = m + 1 + 1 := ⟨k - 2, by omega⟩
    simp only [scholiumlaw25_splices.l0, scholiumlaw25_splices.j1]
    rw [decide_eq_false (by omega)]
    simp
  | succ d ih =>
    intro acc at_ hd hI
    by_cases hlt : (acc.length : Int) < (l.length : Int)
    · obtain ⟨x, hx⟩ : ∃ x, rd_T35 l (acc.length : Int) = x := ⟨_, rfl⟩
      have hlo := hI.lo
      have hhi := hI.hi
      have e1 : wrap64 (wrap64 ((n : Int) - at_) + 1) = (n : Int) - at_ + 1 := by rw [w64 (x := (n : Int) - at_) (by omega) (by omega), w64 (by omega) (by omega)]
      obtain ⟨r, hr, hr0, hr1⟩ := within_some x.f0 ((n : Int) - at_ + 1) (by omega) (by omega)
      have e2 : wrap64 (at_ + r) = at_ + r := w64 (by omega) (by omega)
      have e3 : wrap64 (mn (wrap64 ((n : Int) - (at_ + r))) 6 + 1) = min ((n : Int) - (at_ + r)) 6 + 1 := by
        rw [w64 (x := (n : Int) - (at_ + r)) (by omega) (by omega), mn_eq, w64 (by omega) (by omega)]
      obtain ⟨q, hq, hq0, hq1⟩ := within_some x.f1 (min ((n : Int) - (at_ + r)) 6 + 1) (by omega) (by omega)
      have e4 : wrap64 (at_ + r + q) = at_ + r + q := w64 (by omega) (by omega)
      have ht := text_some x.f2 9
      have htl := text_len x.f2 9
      obtain ⟨tx, htx⟩ : ∃ t, x.f2.extract 0 (min x.f2.size 9) = t := ⟨_, rfl⟩
      rw [htx] at ht htl
      have hI' : SpInv n (acc ++ [⟨at_ + r, at_ + r + q, tx⟩]) (at_ + r + q) := by
        refine ⟨vld_snoc (last := at_) hI.v hI.last hI.none (by show at_ ≤ at_ + r; omega) (by show at_ + r ≤ at_ + r + q; omega) (by show at_ + r + q ≤ (n : Int); omega), fun y hy => ?_, fun h => by simp at h, by omega, by omega, fun y hy => ?_, fun y hy => ?_⟩
        · simp at hy
          subst hy
          rfl
        · rw [List.mem_append, List.mem_singleton] at hy
          rcases hy with hy | rfl
          · exact hI.text y hy
          · show tx.size ≤ 20
            omega
        · rw [List.mem_append, List.mem_singleton] at hy
          rcases hy with hy | rfl
          · exact hI.width y hy
          · show at_ + r + q - (at_ + r) ≤ 9
            omega
      obtain ⟨s, a, hs, hIs, hsl⟩ := ih (acc ++ [⟨at_ + r, at_ + r + q, tx⟩]) (at_ + r + q) (by rw [List.length_append]; simp; omega) hI'
      refine ⟨s, a, fun k hk => ?_, hIs, hsl⟩
      obtain ⟨k, rfl⟩ : ∃ m, k = m + 1 + 1 := ⟨k - 2, by omega⟩
      simp only [scholiumlaw25_splices.l0, scholiumlaw25_splices.j1]
      rw [if_pos hlt, decide_eq_true (show (acc.length : Int) < 5 by omega), if_pos rfl, if_pos (by omega), if_pos hlt, hx, e1, hr]
      simp only [Option.bind_some]
      rw [show (9 : Int) = ((9 : Nat) : Int) from rfl, ht]
      simp only [Option.bind_some]
      rw [e2, e3, hq]
      simp only [Option.bind_some]
      rw [if_pos (by omega), e4, w64 (by omega) (by omega)]
      have := hs k (by omega)
      rw [List.length_append] at this
      simpa using this
    · refine ⟨acc, at_, fun k hk => ?_, hI, by omega⟩
      obtain ⟨k, rfl⟩ : ∃ m, k = m + 1 + 1 := ⟨k - 2, by omega⟩
      simp only [scholiumlaw25_splices.l0, scholiumlaw25_splices.j1]
      rw [if_neg hlt]
      simp
theorem splices25_some (l : List S35) (n : Nat) (hn : n ≤ 100000) : ∃ s, scholiumlaw25_splices.f 12 l (n : Int) = some s ∧ vld n 0 s = true ∧ s.length ≤ 5 ∧ sumT s ≤ 100 := by
  obtain ⟨s, a, hs, hI, hl⟩ := splices25_l l n hn 5 [] 0 rfl ⟨rfl, by simp, fun _ => rfl, by omega, by omega, by simp, by simp⟩
  refine ⟨s, ?_, hI.v, hl, ?_⟩
  · have := hs 12 (by omega)
    simpa [scholiumlaw25_splices.f] using this
  · have := sumT_le s 20 hI.text
    omega
theorem kept_loop (b : List Int) (s : List S35) (hb : b.length ≤ 1000000) (hsl : s.length ≤ 1000) (M : Nat) (hM : ∀ n, n ≤ M → n < 140737488355328) :
    ∀ (d k i p : Nat) (out : List Int), i + d = s.length → d < k → p ≤ b.length → vld b.length p (s.drop i) = true → out.length + (b.length - p) + sumT (s.drop i) ≤ M →
    scholiumlaw25_AuditKept.l0 k b s out (p : Int) (s.length : Int) (i : Int) = some (out ++ doS b p (s.drop i)) := by
  intro d
  induction d with
  | zero =>
    intro k i p out hi hk hp hv hs
    obtain ⟨k, rfl⟩ : ∃ m, k = m + 1 := ⟨k - 1, by omega⟩
    have hnil : s.drop i = [] := List.drop_eq_nil_of_le (by omega)
    rw [hnil] at hs ⊢
    have hdl : out.length + (b.drop p).length < 140737488355328 := hM _ (by rw [List.length_drop]; omega)
    simp only [scholiumlaw25_AuditKept.l0]
    rw [if_neg (by omega), if_pos (Int.natCast_nonneg p), if_pos (by omega)]
    simp only [Int.toNat_natCast, doS]
    rw [if_pos hdl]
  | succ d ih =>
    intro k i p out hi hk hp hv hs
    obtain ⟨k, rfl⟩ : ∃ m, k = m + 1 := ⟨k - 1, by omega⟩
    have e := rdS s i (by omega)
    obtain ⟨x, hx⟩ : ∃ x, rd_T35 s (i : Int) = x := ⟨_, rfl⟩
    rw [hx] at e
    rw [e] at hs hv
    obtain ⟨h0, h1, h2, h3⟩ := vld_cons hv
    simp only [sumT] at hs
    have hcl := cut_len b p x.f0.toNat (by omega)
    have hq : x.f1 = (x.f1.toNat : Int) := (Int.toNat_of_nonneg (by omega)).symm
    have hdl : out.length + ((b.take x.f0.toNat).drop p).length < 140737488355328 := hM _ (by rw [hcl]; omega)
    have hdl2 : (out ++ (b.take x.f0.toNat).drop p).length + x.f2.size < 140737488355328 := hM _ (by rw [List.length_append, hcl]; omega)
    have hi1 : (i : Int) < (s.length : Int) := by omega
    simp only [scholiumlaw25_AuditKept.l0, hx]
    rw [if_pos hi1, if_pos (Int.natCast_nonneg i), if_pos hi1, if_pos (Int.natCast_nonneg p), if_pos h0, if_pos (by omega)]
    simp only [Int.toNat_natCast]
    rw [if_pos hdl, Option.bind_some, if_pos hdl2, show wrap64 ((i : Int) + 1) = ((i + 1 : Nat) : Int) by rw [w64 (by omega) (by omega)]; omega]
    conv => lhs; rw [hq]
    rw [ih k (i + 1) x.f1.toNat _ (by omega) (by omega) (by omega) (by rw [← hq]; exact h3) (by rw [List.length_append, List.length_append, hcl, bytesOf_length]; omega), e]
    simp only [doS, List.append_assoc]
theorem AuditKept (A0 : Option Addr) (c0 : Nat) (l0 : List Int) (A1 : Option Addr) (c1 : Nat) (l1 : List S35) (a2 : Int) (W : World) (hr0 : Kd.C (Kd.int .u8) W A0 l0.length l0) (hc0 : l0.length ≤ c0) (hr1 : Kd.C k35 W A1 l1.length l1) (hc1 : l1.length ≤ c1)
    (_ : l0.length ≤ maxLen) (_ : l0.length * 1 ≤ 140737488351232) (hw0 : ∀ x ∈ l0, (Lit.int .u8 x).wf = true) (_ : l1.length * 32 ≤ 140737488351232) (_ : ∀ x ∈ l1, Opens.Fine x) (_ : (Lit.int .i64 a2).wf = true) :
    Calls Try.prog 10 #[.slice A0 l0.length c0, .slice A1 l1.length c1, .int .i64 a2] W fun e w' => e = .returned (.bool true) ∧ Below W.heap.size W w' := by
  obtain ⟨b, hb, hbl⟩ : ∃ a, l0.take 60 = a ∧ a.length ≤ 60 := ⟨_, rfl, by rw [List.length_take]; omega⟩
  have hb2 : ∀ x ∈ b, 0 ≤ x ∧ x < 256 := by
    intro x hx
    rw [← hb] at hx
    exact wf_u8_range' (hw0 x (List.mem_of_mem_take hx))
  have k0 := cut_some l0 60 (by omega)
  rw [hb] at k0
  obtain ⟨s, hs, hv, hsl, hst⟩ := splices25_some l1 b.length (by omega)
  have hl := kept_loop b s (by omega) (by omega) 10000 (fun n hn => Nat.lt_of_le_of_lt hn (by decide)) s.length 10 0 0 [] (by omega) (by omega) (by omega) hv (by simp only [List.length_nil, List.drop_zero]; omega)
  rw [List.drop_zero, List.nil_append] at hl
  have hlen := doS_len b s 0 (by omega) hv
  exact kept_walk 10 A0 c0 l0 A1 c1 l1 a2 W hr0 hc0 hr1 hc1 b k0 s 12 hs (doS b 0 s) hl (fun c hc => kept_some b c s (by omega) (by omega) hv (by omega) hb2 hc 100 (by omega)) (doS_range b hb2 s 0) (by omega)
end Go.Proofs.Ytbaokhcadifdmaa.Pure

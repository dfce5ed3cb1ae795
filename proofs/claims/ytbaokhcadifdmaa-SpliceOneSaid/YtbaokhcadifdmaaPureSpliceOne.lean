/- SpliceOne: for any bytes (cut at 100) and any splices (made valid): done at once they come to what they come to one by one, from the last one on. No condition. -/
import Derived.Test.YtbaokhcadifdmaaPAllF5
import Derived.Test.YtbaokhcadifdmaaLibSplice
import Derived.Test.YtbaokhcadifdmaaOpens
namespace Go.Proofs.Ytbaokhcadifdmaa.Pure
open Go.RowKit Go.Proofs.Ytbaokhcadifdmaa.PAll Go.Proofs.YtbaokhcadifdmaaW.PrintWords Go.Proofs.YtbaokhcadifdmaaW.PrintLast Go.Proofs.YtbaokhcadifdmaaW.Plain

/-- One splice more, ahead of those that are done: the text is as if they were done together. -/
theorem one_step (b : List Int) (x : S35) (rest : List S35) (hv : vld b.length 0 (x :: rest) = true) :
    vld (doS b 0 rest).length 0 [x] = true ∧ doS (doS b 0 rest) 0 [x] = doS b 0 (x :: rest) := by
  obtain ⟨h0, h1, h2, h3⟩ := vld_cons hv
  have hq : x.f1 = (x.f1.toNat : Int) := (Int.toNat_of_nonneg (by omega)).symm
  rw [hq] at h3
  have hs := doS_split b rest 0 x.f1.toNat (by omega) h3
  rw [List.drop_zero] at hs
  have htl : (b.take x.f1.toNat).length = x.f1.toNat := by rw [List.length_take]; omega
  have hl : (doS b 0 rest).length = x.f1.toNat + (doS b x.f1.toNat rest).length := by rw [hs, List.length_append, htl]
  refine ⟨vld_mk h0 h1 (by rw [hl]; omega) rfl, ?_⟩
  simp only [doS]
  have e1 : (doS b 0 rest).take x.f0.toNat = b.take x.f0.toNat := by
    rw [hs, List.take_append_of_le_length (by rw [htl]; omega), List.take_take, Nat.min_eq_left (by omega)]
  have e2 : (doS b 0 rest).drop x.f1.toNat = doS b x.f1.toNat rest := by
    rw [hs, List.drop_left' htl]
  rw [e1, e2]
theorem one_l (b : List Int) (s : List S35) (hb : b.length ≤ 100) (hsl : s.length ≤ 6) (hv : vld b.length 0 s = true) (hst : sumT s ≤ 120) (hsx : ∀ x ∈ s, x.f2.size ≤ 20) :
    ∀ (j k : Nat), j ≤ s.length → j + 400 ≤ k → scholiumlaw03_SpliceOne.l0 k s (doS b 0 s) 0 (doS b 0 (s.drop j)) ((j : Int) - 1) = some true := by
  intro j
  have hall := doS_len b s 0 (by omega) hv
  induction j with
  | zero =>
    intro k _ hk
    obtain ⟨k, rfl⟩ : ∃ m, k = m + 1 := ⟨k - 1, by omega⟩
    simp only [scholiumlaw03_SpliceOne.l0]
    rw [if_neg (by omega), if_pos trivial, List.drop_zero, same_some _ _ (by omega) k (by omega)]
    simp [scholiumlaw03_wakes.f]
  | succ j ih =>
    intro k hj hk
    obtain ⟨k, rfl⟩ : ∃ m, k = m + 1 := ⟨k - 1, by omega⟩
    have e := rdS s j (by omega)
    obtain ⟨x, hx⟩ : ∃ x, rd_T35 s (j : Int) = x := ⟨_, rfl⟩
    rw [hx] at e
    have hvj := vld_drop j hv
    rw [e] at hvj
    obtain ⟨o1, o2⟩ := one_step b x (s.drop (j + 1)) hvj
    rw [← e] at o2
    have hvr : vld b.length 0 (s.drop (j + 1)) = true := vld_drop (j + 1) hv
    have hlen := doS_len b (s.drop (j + 1)) 0 (by omega) hvr
    have hsum := sumT_le (s.drop (j + 1)) 20 (fun y hy => hsx y (List.mem_of_mem_drop hy))
    have hdl : (s.drop (j + 1)).length ≤ 6 := by rw [List.length_drop]; omega
    have hxm : x ∈ s := List.mem_of_mem_drop (i := j) (by rw [e]; exact List.mem_cons_self)
    have hdo := do_small (doS b 0 (s.drop (j + 1))) [x] (by simp) (by omega) o1 (by simp only [sumT]; have := hsx x hxm; omega) k (by simp; omega)
    rw [o2] at hdo
    simp only [scholiumlaw03_SpliceOne.l0]
    rw [show (((j + 1 : Nat) : Int) - 1) = (j : Int) by omega, if_pos (by omega), if_pos (by omega), if_pos (by omega), hx]
    rw [show ([(⟨x.f0, x.f1, x.f2⟩ : S35)] : List S35) = [x] from rfl, hdo]
    simp only [Option.bind_some, if_true]
    rw [w64 (by omega) (by omega)]
    exact ih k (by omega) (by omega)
theorem SpliceOne (l0 : List Int) (l1 : List S35) (_ : l0.length ≤ maxLen) (_ : l0.length * 1 ≤ 140737488351232) (_ : ∀ x ∈ l0, (Lit.int .u8 x).wf = true) (_ : l1.length * 32 ≤ 140737488351232) (_ : ∀ x ∈ l1, Opens.Fine x) :
    ∃ k, scholiumlaw03_SpliceOne.f k l0 l1 = some true := by
  obtain ⟨b, hb, hbl⟩ : ∃ a, l0.take 100 = a ∧ a.length ≤ 100 := ⟨_, rfl, by rw [List.length_take]; omega⟩
  have c0 := cut_some l0 100 (by omega)
  rw [hb] at c0
  obtain ⟨s, hs, hv, hsl, hsx, hst⟩ := splices_some l1 b.length (by omega)
  refine ⟨500, ?_⟩
  unfold scholiumlaw03_SpliceOne.f
  rw [show (100 : Int) = ((100 : Nat) : Int) from rfl, c0]
  simp only [Option.bind_some]
  rw [hs 500 (by omega)]
  simp only [Option.bind_some]
  rw [do_small b s (by omega) (by omega) hv (by omega) 500 (by omega)]
  simp only [Option.bind_some]
  rw [copy_some b (by omega)]
  simp only [Option.bind_some]
  rw [w64 (by omega) (by omega)]
  have := one_l b s hbl hsl hv hst hsx s.length 500 (Nat.le_refl _) (by omega)
  rw [List.drop_length] at this
  exact this
end Go.Proofs.Ytbaokhcadifdmaa.Pure

/- AuditEnds: for any four rows of bytes what Common says of head ++ a ++ tail and head ++ b ++ tail is right: both begin and end alike as far as is said, and no further; no byte counts twice. No condition. -/
import Derived.Test.YtbaokhcadifdmaaPAllF3
import Derived.Test.YtbaokhcadifdmaaLibCommon
namespace Go.Proofs.Ytbaokhcadifdmaa.Pure
open Go.RowKit Go.Proofs.Ytbaokhcadifdmaa.PAll Go.Proofs.YtbaokhcadifdmaaW.PrintWords Go.Proofs.YtbaokhcadifdmaaW.PrintLast Go.Proofs.YtbaokhcadifdmaaW.Plain

theorem AuditEnds : scholiumlaw25_AuditEnds.Pure := by
  intro l0 l1 l2 l3 _ _ _ _ _ _ _ _ _ _ _ _
  obtain ⟨a, ha, hal⟩ : ∃ a, l0.take 30 = a ∧ a.length ≤ 30 := ⟨_, rfl, by rw [List.length_take]; omega⟩
  obtain ⟨b, hb, hbl⟩ : ∃ a, l1.take 30 = a ∧ a.length ≤ 30 := ⟨_, rfl, by rw [List.length_take]; omega⟩
  obtain ⟨h, hh, hhl⟩ : ∃ a, l2.take 20 = a ∧ a.length ≤ 20 := ⟨_, rfl, by rw [List.length_take]; omega⟩
  obtain ⟨t, ht, htl⟩ : ∃ a, l3.take 20 = a ∧ a.length ≤ 20 := ⟨_, rfl, by rw [List.length_take]; omega⟩
  have c0 := cut_some l0 30 (by omega)
  have c1 := cut_some l1 30 (by omega)
  have c2 := cut_some l2 20 (by omega)
  have c3 := cut_some l3 20 (by omega)
  rw [ha] at c0
  rw [hb] at c1
  rw [hh] at c2
  rw [ht] at c3
  obtain ⟨x, hx⟩ : ∃ x, h ++ a ++ t = x := ⟨_, rfl⟩
  obtain ⟨y, hy⟩ : ∃ x, h ++ b ++ t = x := ⟨_, rfl⟩
  have hxl : x.length = h.length + a.length + t.length := by rw [← hx]; simp; omega
  have hyl : y.length = h.length + b.length + t.length := by rw [← hy]; simp; omega
  obtain ⟨n, hn⟩ : ∃ n, cp x y = n := ⟨_, rfl⟩
  obtain ⟨m, hm⟩ : ∃ m, cs (x.drop n) (y.drop n) = m := ⟨_, rfl⟩
  have hnl := cp_le x y
  rw [hn] at hnl
  have hml := cs_le (x.drop n) (y.drop n)
  rw [hm, List.length_drop, List.length_drop] at hml
  have hnh : h.length ≤ n := by
    have := cp_append h (a ++ t) (b ++ t)
    rwa [← List.append_assoc, ← List.append_assoc, hx, hy, hn] at this
  have hmt : t.length ≤ m ∨ n + m = min x.length y.length := by
    by_cases hc : t.length ≤ x.length - n ∧ t.length ≤ y.length - n
    · refine .inl ?_
      rw [← hm]
      refine cs_cut x y n t.length hc.1 hc.2 ?_
      have e1 : x.drop (x.length - t.length) = t := by rw [hxl, ← hx]; exact List.drop_left' (by simp)
      have e2 : y.drop (y.length - t.length) = t := by rw [hyl, ← hy]; exact List.drop_left' (by simp)
      rw [e1, e2]
    · refine .inr ?_
      have := cs_cut x y n (min (x.length - n) (y.length - n)) (by omega) (by omega) (by
        have e : min (x.length - n) (y.length - n) ≤ t.length := by omega
        have e1 : x.drop (x.length - t.length) = t := by rw [hxl, ← hx]; exact List.drop_left' (by simp)
        have e2 : y.drop (y.length - t.length) = t := by rw [hyl, ← hy]; exact List.drop_left' (by simp)
        have f1 : x.drop (x.length - min (x.length - n) (y.length - n)) = t.drop (t.length - min (x.length - n) (y.length - n)) := by
          rw [← e1, List.drop_drop, List.length_drop]; congr 1; omega
        have f2 : y.drop (y.length - min (x.length - n) (y.length - n)) = t.drop (t.length - min (x.length - n) (y.length - n)) := by
          rw [← e2, List.drop_drop, List.length_drop]; congr 1; omega
        rw [f1, f2])
      rw [hm] at this
      omega
  have hcom := common_some x y (by omega) (by omega) 1000 (by omega)
  rw [hn, hm] at hcom
  have hself : audit_Common.f 997 x x = some ((x.length : Int), 0) := by
    rw [common_some x x (by omega) (by omega) 997 (by omega), cp_self]
    simp [cs, cp]
  have htk : x.take n = y.take n := by rw [← hn]; exact cp_take x y
  have hdr : x.drop (x.length - m) = y.drop (y.length - m) := by
    have := cs_drop (x.drop n) (y.drop n)
    rw [hm, List.drop_drop, List.drop_drop, List.length_drop, List.length_drop] at this
    rwa [show n + (x.length - n - m) = x.length - m by omega, show n + (y.length - n - m) = y.length - m by omega] at this
  refine ⟨1000, ?_⟩
  unfold scholiumlaw25_AuditEnds.f
  rw [show (30 : Int) = ((30 : Nat) : Int) from rfl, show (20 : Int) = ((20 : Nat) : Int) from rfl, c0, c1, c2, c3]
  simp only [Option.bind_some]
  rw [copy_some h (by omega)]
  simp only [Option.bind_some]
  rw [if_pos (by omega), if_pos (by rw [List.length_append]; omega), if_pos (by omega), if_pos (by rw [List.length_append]; omega), hx, hy, hcom]
  simp only [Option.bind_some]
  rw [if_neg (by omega), w64 (by omega) (by omega), w64 (by omega) (by omega), if_neg (by omega), mn_eq]
  have hd : decide (((n : Int) + m) > min (x.length : Int) (y.length : Int)) = false := decide_eq_false (by omega)
  rw [hd]
  have e1 : wrap64 ((x.length : Int) - m) = ((x.length - m : Nat) : Int) := by rw [w64 (by omega) (by omega)]; omega
  have e2 : wrap64 ((y.length : Int) - m) = ((y.length - m : Nat) : Int) := by rw [w64 (by omega) (by omega)]; omega
  have s1 := same_some (x.take n) (y.take n) (by rw [List.length_take]; omega) 999 (by rw [List.length_take]; omega)
  have s2 := same_some (x.drop (x.length - m)) (y.drop (y.length - m)) (by rw [List.length_drop]; omega) 999 (by rw [List.length_drop]; omega)
  rw [decide_eq_true htk] at s1
  rw [decide_eq_true hdr] at s2
  have hj2 : scholiumlaw25_AuditEnds.j2 998 x false = some true := by
    simp only [scholiumlaw25_AuditEnds.j2]
    rw [hself]
    simp [scholiumlaw25_wakes.f]
  simp only [scholiumlaw25_AuditEnds.j0]
  rw [if_neg (by simp), if_pos (by omega), if_pos (by omega), if_pos (by omega)]
  simp only [Int.toNat_natCast]
  rw [s1]
  simp only [Option.bind_some, if_true]
  rw [e1, e2]
  simp only [Int.toNat_natCast]
  rw [if_pos (by omega), if_pos (by omega), if_pos (by omega), if_pos (by omega), s2]
  simp only [Option.bind_some, Bool.not_true, scholiumlaw25_AuditEnds.j1]
  rw [if_neg (by simp)]
  by_cases g1 : (n : Int) < (x.length : Int)
  · rw [if_pos g1]
    by_cases g2 : (n : Int) < (y.length : Int)
    · rw [if_pos g2, if_pos (by omega), rd_nat, rd_nat]
      have hne := cp_ne x y (by omega) (by omega)
      rw [hn] at hne
      rw [beq_eq_false_iff_ne.2 hne]
      exact hj2
    · rw [if_neg g2]; exact hj2
  · rw [if_neg g1]; exact hj2
end Go.Proofs.Ytbaokhcadifdmaa.Pure

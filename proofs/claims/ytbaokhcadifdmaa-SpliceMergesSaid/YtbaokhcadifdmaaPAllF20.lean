-- Printed by a program out of the translation (wip/tools/inj.py); Lean checks it.
import Derived.Test.YtbaokhcadifdmaaPAllBase
import Derived.Test.YtbaokhcadifdmaaPAllF18
namespace Go.Proofs.Ytbaokhcadifdmaa.PAll
open Go.RowKit Go.Proofs.YtbaokhcadifdmaaW.PrintWords Go.Proofs.YtbaokhcadifdmaaW.PrintLast Go.Proofs.YtbaokhcadifdmaaW.PrintMore
attribute [local go_sem] max2_int min2_int max_two min_two max_three min_three max_four min_four   -- for this text's walks alone
set_option linter.unusedVariables false
set_option linter.unusedSimpArgs false

/-! ### scholiumlaw03_wakes: function 20 -/
-- by hand
set_option maxRecDepth 100000 in
theorem wakes03_do : splice_Do.f 8 [97, 98, 99] [⟨1, 2, ⟨#[120]⟩⟩] = some ([97, 120, 99], 0) := by decide +kernel
theorem wakes03 (w : World) : Calls Try.prog 20 #[] w fun e w' => e = .returned (.bool true) ∧ Below w.heap.size w w' := by
  have kc := fun (W : World) (C : Array Value) (n c g : Nat) (hg : g = W.heap.size) => Go.Joins.run_convert_bytes_const_at (P := Try.prog) W 22 5 C n c g hg Try.underlying22 Try.underlying5
  have hu35 := Try.underlying35
  go_enter Try.func20, Try.ntmps20
  go_wp2_with fail
  have hb0 := below_alloc (below_alloc (Below.refl w.heap.size w) (.cells #[.int .u8 97, .int .u8 98, .int .u8 99] 5 (3, 4))) (.cells #[.int .i64 1, .int .i64 2, .string ⟨#[120]⟩] 35)
  have h0 := blk_under (.cells #[.int .i64 1, .int .i64 2, .string ⟨#[120]⟩] 35) (blk_top w (.cells #[.int .u8 97, .int .u8 98, .int .u8 99] 5 (3, 4)))
  have hz : (w.alloc (.cells #[.int .u8 97, .int .u8 98, .int .u8 99] 5 (3, 4))).heap.size = w.heap.size + 1 := by simp
  have c0 := Kd.C_block (h1 := fun _ => rfl) (enc := Value.int .u8) (0 : Int) (xs := [97, 98, 99]) h0 rfl (by decide)
  have r1 : Kd.R k35 35 ((w.alloc (.cells #[.int .u8 97, .int .u8 98, .int .u8 99] 5 (3, 4))).alloc (.cells #[.int .i64 1, .int .i64 2, .string ⟨#[120]⟩] 35)) 0 (fun _ => True) (.slice (some ⟨w.heap.size + 1, 0, none⟩) 1 1) [⟨1, 2, ⟨#[120]⟩⟩] := by
    refine ⟨fun _ _ => trivial, [.int .i64 1, .int .i64 2, .string ⟨#[120]⟩], ?_, Reps.c3 (k35_mkM _ _ _ (⟨1, 2, ⟨#[120]⟩⟩ : S35)) (Reps.none _ _)⟩
    have h2 := World.ownsRow_lit (base := 0) (e := 35) (size := 3) (w.alloc (.cells #[.int .u8 97, .int .u8 98, .int .u8 99] 5 (3, 4))) #[.int .i64 1, .int .i64 2, .string ⟨#[120]⟩] 1 (Nat.zero_le _) (by simp [maxLen]) (by simp)
    rw [hz] at h2
    exact h2
  have c1 := (Kd.R_reads' r1).2.2
  refine (splice_Do.calls 8 _ _ [97, 98, 99] _ _ [⟨1, 2, ⟨#[120]⟩⟩] [97, 120, 99] 0 _ c0 (by decide) c1 (by decide) wakes03_do).mono ?_
  rintro e w' ⟨v, rfl, hr, hb⟩
  obtain ⟨A, c, rfl, _, hr⟩ := Kd.R_reads hr
  have ks : (convert 22 9 (.slice A 3 c)).run Try.prog w' = .ok (.string (strOfNums [97, 120, 99])) w' := Kd.C_string (dst := 9) (c := c) Try.underlying22 Try.underlying5 Try.underlying9 hr
  have HB := Aside0.mk (below_step hb0 hb)
  clear hb hb0 h0 hz c0 c1 kc r1 hr
  go_wp2
  go_ret
  exact ⟨by simp [strOfNums], HB.out⟩
def scholiumlaw03_wakes.f : Option Bool := some true
theorem scholiumlaw03_wakes.calls (r : Bool) (w : World) (h : scholiumlaw03_wakes.f = some r) :
    Calls Try.prog 20 #[] w fun e w' => e = .returned (.bool r) ∧ Below w.heap.size w w' := by
  obtain rfl : true = r := Option.some.inj h
  exact wakes03 w

end Go.Proofs.Ytbaokhcadifdmaa.PAll

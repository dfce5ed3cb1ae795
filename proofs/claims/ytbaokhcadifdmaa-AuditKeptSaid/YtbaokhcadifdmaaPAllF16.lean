-- Printed by a program out of the translation (wip/tools/inj.py); Lean checks it.
import Derived.Test.YtbaokhcadifdmaaPAllBase
import Derived.Test.YtbaokhcadifdmaaPAllF14
namespace Go.Proofs.Ytbaokhcadifdmaa.PAll
open Go.RowKit Go.Proofs.YtbaokhcadifdmaaW.PrintWords Go.Proofs.YtbaokhcadifdmaaW.PrintLast Go.Proofs.YtbaokhcadifdmaaW.PrintMore
attribute [local go_sem] max2_int min2_int max_two min_two max_three min_three max_four min_four   -- for this text's walks alone
set_option linter.unusedVariables false
set_option linter.unusedSimpArgs false

/-! ### scholiumlaw25_wakes: function 16 -/
-- by hand
set_option maxRecDepth 100000 in
theorem wakes25_common : audit_Common.f 8 [97, 98, 99] [97, 100, 99] = some (1, 1) := by decide +kernel
theorem wakes25 (w : World) : Calls Try.prog 16 #[] w fun e w' => e = .returned (.bool true) ∧ Below w.heap.size w w' := by
  have kc := fun (W : World) (C : Array Value) (n c g : Nat) (hg : g = W.heap.size) => Go.Joins.run_convert_bytes_const_at (P := Try.prog) W 22 5 C n c g hg Try.underlying22 Try.underlying5
  go_enter Try.func16, Try.ntmps16
  go_wp2_with fail
  have hb0 := below_alloc (below_alloc (Below.refl w.heap.size w) (.cells #[.int .u8 97, .int .u8 98, .int .u8 99] 5 (3, 4))) (.cells #[.int .u8 97, .int .u8 100, .int .u8 99] 5 (3, 4))
  have h0 := blk_under (.cells #[.int .u8 97, .int .u8 100, .int .u8 99] 5 (3, 4)) (blk_top w (.cells #[.int .u8 97, .int .u8 98, .int .u8 99] 5 (3, 4)))
  have h1 := blk_top (w.alloc (.cells #[.int .u8 97, .int .u8 98, .int .u8 99] 5 (3, 4))) (.cells #[.int .u8 97, .int .u8 100, .int .u8 99] 5 (3, 4))
  have hz : (w.alloc (.cells #[.int .u8 97, .int .u8 98, .int .u8 99] 5 (3, 4))).heap.size = w.heap.size + 1 := by simp
  rw [hz] at h1
  have c0 := Kd.C_block (h1 := fun _ => rfl) (enc := Value.int .u8) (0 : Int) (xs := [97, 98, 99]) h0 rfl (by decide)
  have c1 := Kd.C_block (h1 := fun _ => rfl) (enc := Value.int .u8) (0 : Int) (xs := [97, 100, 99]) h1 rfl (by decide)
  refine (audit_Common.calls 8 _ _ [97, 98, 99] _ _ [97, 100, 99] 1 1 _ c0 (by decide) c1 (by decide) wakes25_common).mono ?_
  rintro e w' ⟨rfl, hb⟩
  have HB := Aside0.mk (below_step hb0 hb)
  clear hb hb0 h0 h1 hz c0 c1 kc
  go_wp2
  go_ret
  exact ⟨rfl, HB.out⟩
def scholiumlaw25_wakes.f : Option Bool := some true
theorem scholiumlaw25_wakes.calls (r : Bool) (w : World) (h : scholiumlaw25_wakes.f = some r) :
    Calls Try.prog 16 #[] w fun e w' => e = .returned (.bool r) ∧ Below w.heap.size w w' := by
  obtain rfl : true = r := Option.some.inj h
  exact wakes25 w

end Go.Proofs.Ytbaokhcadifdmaa.PAll

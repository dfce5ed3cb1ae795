/- The order that Merge sorts by: cmp.Compare, cmp.Or and the closure Merge$1, walked. -/
import Derived.Test.YtbaokhcadifdmaaLibSplice
import Derived.Shelf.SlSortCmp.QuietGrown
import Derived.StillTailTactics
set_option linter.unusedVariables false
set_option linter.unusedSimpArgs false
namespace Go.Proofs.Ytbaokhcadifdmaa.Pure
open Go.RowKit Go.Proofs.Ytbaokhcadifdmaa.PAll Go.Proofs.YtbaokhcadifdmaaW.PrintWords Go.Proofs.YtbaokhcadifdmaaW.PrintLast Go.Proofs.YtbaokhcadifdmaaW.PrintMore Go.Proofs.YtbaokhcadifdmaaW.Plain

/-- How two numbers compare. -/
def cmp3 (x y : Int) : Int := if x < y then -1 else if x > y then 1 else 0
theorem isNaN_walk (x : Int) (w : World) : Calls Try.prog 44 #[.int .i64 x] w fun e w' => e = .returned (.bool false) ∧ w' = w := by
  go_enter Try.func44, Try.ntmps44
  go_wp2
  go_ret
  exact ⟨by simp, rfl⟩
theorem compare_walk (x y : Int) (w : World) : Calls Try.prog 40 #[.int .i64 x, .int .i64 y] w fun e w' => e = .returned (.int .i64 (cmp3 x y)) ∧ w' = w := by
  go_enter Try.func40, Try.ntmps40
  by_cases h : x < y
  · go_wp2_with (go_at_call 44; refine (isNaN_walk _ _).mono ?_; rintro e w' ⟨rfl, rfl⟩)
    go_ret
    exact ⟨by simp [cmp3, h], rfl⟩
  · by_cases h2 : y < x
    · go_wp2_with (go_at_call 44; refine (isNaN_walk _ _).mono ?_; rintro e w' ⟨rfl, rfl⟩)
      go_ret
      exact ⟨by simp [cmp3, h, h2], rfl⟩
    · go_wp2_with (go_at_call 44; refine (isNaN_walk _ _).mono ?_; rintro e w' ⟨rfl, rfl⟩)
      go_ret
      exact ⟨by rw [show cmp3 x y = 0 by unfold cmp3; rw [if_neg (by omega), if_neg (by omega)]]; rfl, rfl⟩
theorem or_walk (g : Nat) (x y : Int) (w : World) (h0 : w.cell? ⟨g, 0, none⟩ = some (.int .i64 x)) (h1 : w.cell? ⟨g, 1, none⟩ = some (.int .i64 y)) :
    Calls Try.prog 39 #[.slice (some ⟨g, 0, none⟩) 2 2] w fun e w' => e = .returned (.int .i64 (if x ≠ 0 then x else y)) ∧ w' = w := by
  go_enter Try.func39, Try.ntmps39
  go_wp2
  go_loopw [8] (fun v8 wr => ∃ i : Nat, v8 = .int .i64 i ∧ i ≤ 2 ∧ (0 < i → x = 0) ∧ (1 < i → y = 0) ∧ wr = w) (fun v8 _ => 2 - (intOf v8).toNat)
  case atStart => exact ⟨0, rfl, by omega, by omega, by omega, rfl⟩
  case round =>
    obtain ⟨i, rfl, hi, hx, hy, rfl⟩ := hrel
    match i, hi with
    | 0, _ =>
      by_cases hz : x = 0
      · subst hz
        go_wp2
        go_roundw
        case rel => exact ⟨1, by simp⟩
        case measure => simp [intOf]
      · go_wp2
        go_ret
        exact ⟨by simp [hz], rfl⟩
    | 1, _ =>
      obtain rfl := hx (by omega)
      by_cases hz : y = 0
      · subst hz
        go_wp2
        go_roundw
        case rel => exact ⟨2, by simp⟩
        case measure => simp [intOf]
      · go_wp2
        go_ret
        exact ⟨by simp, rfl⟩
    | 2, _ =>
      obtain rfl := hx (by omega)
      obtain rfl := hy (by omega)
      go_wp2
      go_ret
      exact ⟨by simp, rfl⟩
/-- What the closure answers. -/
def cf (x y : S35) : Int := if cmp3 x.f0 y.f0 ≠ 0 then cmp3 x.f0 y.f0 else cmp3 x.f1 y.f1
set_option maxRecDepth 100000 in
theorem less_walk (x y : S35) (w : World) : Calls Try.prog 38 #[.agg #[.int .i64 x.f0, .int .i64 x.f1, .string x.f2], .agg #[.int .i64 y.f0, .int .i64 y.f1, .string y.f2]] w fun e w' => e = .returned (.int .i64 (cf x y)) ∧ ∃ q os', w' = Go.Sort.grow (w.drewN q) os' := by
  go_enter Try.func38, Try.ntmps38
  go_wp2
  obtain ⟨W2, hW2⟩ : ∃ W2, W2 = (w.alloc (.cells #[.int .i64 x.f0, .int .i64 x.f1, .string x.f2] 35)).alloc (.cells #[.int .i64 y.f0, .int .i64 y.f1, .string y.f2] 35) := ⟨_, rfl⟩
  have b0 : W2.drew.heap[w.heap.size]? = some (.cells #[.int .i64 x.f0, .int .i64 x.f1, .string x.f2] 35 (0, 0)) := by rw [hW2]; exact blk_under _ (blk_top w _)
  have b1 : W2.drew.heap[w.heap.size + 1]? = some (.cells #[.int .i64 y.f0, .int .i64 y.f1, .string y.f2] 35 (0, 0)) := by
    rw [hW2]
    have h := blk_top (w.alloc (.cells #[.int .i64 x.f0, .int .i64 x.f1, .string x.f2] 35)) (.cells #[.int .i64 y.f0, .int .i64 y.f1, .string y.f2] 35)
    have hz : (w.alloc (.cells #[.int .i64 x.f0, .int .i64 x.f1, .string x.f2] 35)).heap.size = w.heap.size + 1 := by simp
    rw [hz] at h
    exact h
  have x0 := (blk_cell b0 0).trans rfl
  have x1 := (blk_cell b0 1).trans rfl
  have y0 := (blk_cell b1 0).trans rfl
  have y1 := (blk_cell b1 1).trans rfl
  have HW2 := Aside0.mk hW2
  rw [← hW2]
  clear hW2 b0 b1
  refine wp_region_still_tail 10 (by kernel_rfl) (by kernel_rfl) ?_
  show wpStill Try.prog _ W2.drew (fun a' => wpList Try.prog _ _ _ a' W2.drew) _ _
  generalize hW3 : W2.drew = W3 at x0 x1 y0 y1 ⊢
  have HW3 := Aside0.mk hW3
  clear hW3
  simp only [List.take_succ_cons, List.take_zero, List.drop_succ_cons, List.drop_zero]
  still_step
  still_step
  still_step
  still_step
  still_call (compare_walk _ _ _)
  still_step
  still_step
  still_step
  still_step
  still_call (compare_walk _ _ _)
  refine wpStill_nil ?_
  clear x0 x1 y0 y1
  go_wp2_with fail
  have hz := blk_top W3 (.cells #[.int .i64 (cmp3 x.f0 y.f0), .int .i64 (cmp3 x.f1 y.f1)] 3)
  have ho : Calls Try.prog 39 #[.slice (some ⟨W3.heap.size, 0, none⟩) 2 2] (W3.alloc (.cells #[.int .i64 (cmp3 x.f0 y.f0), .int .i64 (cmp3 x.f1 y.f1)] 3)) fun e w' => e = .returned (.int .i64 (cf x y)) ∧ w' = W3.alloc (.cells #[.int .i64 (cmp3 x.f0 y.f0), .int .i64 (cmp3 x.f1 y.f1)] 3) := or_walk _ _ _ _ ((blk_cell hz 0).trans rfl) ((blk_cell hz 1).trans rfl)
  refine ho.mono ?_
  clear ho
  rintro e w4 ⟨rfl, rfl⟩
  clear hz
  go_wp2
  go_ret
  refine ⟨rfl, 1, #[.cells #[.int .i64 x.f0, .int .i64 x.f1, .string x.f2] 35, .cells #[.int .i64 y.f0, .int .i64 y.f1, .string y.f2] 35, .cells #[.int .i64 (cmp3 x.f0 y.f0), .int .i64 (cmp3 x.f1 y.f1)] 3], ?_⟩
  rw [← HW3.out, HW2.out]
  rw [Go.Sort.alloc_eq_grow w, Go.Sort.alloc_eq_grow (Go.Sort.grow w _), Go.Sort.grow_grow, Go.Sort.drew_grow, Go.Sort.alloc_eq_grow, Go.Sort.grow_grow]
  rfl
end Go.Proofs.Ytbaokhcadifdmaa.Pure

/- The law SpliceLimits, walked by hand: lengths drawn about 65535, one splice of five bytes, and the three answers. -/
import Derived.Test.YtbaokhcadifdmaaLibSplice
import Derived.Test.YtbaokhcadifdmaaPAllF20
set_option linter.unusedVariables false
namespace Go.Proofs.Ytbaokhcadifdmaa.Pure
open Go.RowKit Go.Proofs.Ytbaokhcadifdmaa.PAll Go.Proofs.YtbaokhcadifdmaaW.PrintWords Go.Proofs.YtbaokhcadifdmaaW.PrintLast Go.Proofs.YtbaokhcadifdmaaW.PrintMore Go.Proofs.YtbaokhcadifdmaaW.Plain
attribute [local go_sem] max2_int min2_int max_two min_two

theorem limits_do (M : Nat) (h1 : 65530 ≤ M) (h2 : M ≤ 65532) : splice_Do.f 10 (List.replicate M 0) [⟨3, 3, ⟨#[49, 50, 51, 52, 53]⟩⟩] = some (res (doS (List.replicate M 0) 0 [⟨3, 3, ⟨#[49, 50, 51, 52, 53]⟩⟩])) :=
  do_some _ _ (by simp) (by rw [List.length_replicate]; omega) (vld_mk (by decide) (by decide) (by rw [List.length_replicate]; show (3 : Int) ≤ M; omega) rfl) (by simp [sumT, ByteArray.size]) 10 (by simp)
theorem limits_len (M : Nat) (h1 : 65530 ≤ M) : (doS (List.replicate M 0) 0 [⟨3, 3, ⟨#[49, 50, 51, 52, 53]⟩⟩]).length = M + 5 := by
  simp [doS, bytesOf]
  omega
theorem limits_small (M : Nat) (h1 : 65530 ≤ M) (h2 : M ≤ 65531) : splice_Do.f 10 (List.replicate M 0) [⟨3, 3, ⟨#[49, 50, 51, 52, 53]⟩⟩] = some (doS (List.replicate M 0) 0 [⟨3, 3, ⟨#[49, 50, 51, 52, 53]⟩⟩], 0) := by
  rw [limits_do M h1 (by omega), res_small]
  rw [limits_len M h1]
  omega
theorem limits_big : splice_Do.f 10 (List.replicate 65532 0) [⟨3, 3, ⟨#[49, 50, 51, 52, 53]⟩⟩] = some ([], 10) := by
  rw [limits_do 65532 (by omega) (by omega)]
  unfold res
  rw [limits_len 65532 (by omega), if_pos (by omega)]
theorem made_list (m : Nat) : (madeCells #[Value.int .u8 0] m).toList = (List.replicate m (0 : Int)).map (Value.int .u8) := by
  apply List.ext_getElem
  · simp [madeCells]
  · intro i h1 h2
    simp [madeCells, Nat.mod_one]
/-- One splice, or more, laid as a literal: its row. -/
theorem lit_row (W : World) (cs : List Value) (xs : List S35) (hr : Reps (fun x c => k35.M (W.alloc (.cells cs.toArray 35)) 0 (fun _ => False) x c) 3 xs cs) (hx : xs.length ≤ 1000) :
    Kd.C k35 (W.alloc (.cells cs.toArray 35)) (some ⟨W.heap.size, 0, none⟩) xs.length xs := by
  have r1 : Kd.R k35 35 (W.alloc (.cells cs.toArray 35)) 0 (fun _ => True) (.slice (some ⟨W.heap.size, 0, none⟩) xs.length xs.length) xs := by
    refine ⟨fun _ _ => trivial, cs, ?_, hr.imp_ (fun p c hp => k35.M_mono (fun k hk => hk.elim) hp)⟩
    have h2 := World.ownsRow_lit (base := 0) (e := 35) (size := 3) W cs.toArray xs.length (Nat.zero_le _) (by simp only [maxLen]; omega) (by simpa using hr.1)
    exact (by simpa using h2 : (W.alloc (.cells cs.toArray 35)).ownsRow 0 35 3 (.slice (some ⟨W.heap.size, 0, none⟩) xs.length xs.length) xs.length cs)
  exact (Kd.R_reads' r1).2.2
theorem limits_rows (w2 : World) : ∀ W0 : World, W0 = ((((((((w2.alloc (.cells #[.int .u8 97, .int .u8 98, .int .u8 99, .int .u8 100, .int .u8 101, .int .u8 102] 5 (6, 7))).alloc (.cells #[.int .i64 (-1), .int .i64 0, .string ⟨#[]⟩] 35)).alloc (.cells #[.int .i64 3, .int .i64 2, .string ⟨#[]⟩] 35)).alloc (.cells #[.int .i64 0, .int .i64 7, .string ⟨#[]⟩] 35)).alloc (.cells #[.int .i64 7, .int .i64 7, .string ⟨#[]⟩] 35)).alloc (.cells #[.int .i64 0, .int .i64 3, .string ⟨#[]⟩, .int .i64 2, .int .i64 4, .string ⟨#[]⟩] 35)).alloc (.cells #[.int .i64 4, .int .i64 4, .string ⟨#[]⟩, .int .i64 1, .int .i64 1, .string ⟨#[]⟩] 35)).alloc (.cells #[.slice (some ⟨w2.heap.size + 1, 0, none⟩) 1 1, .slice (some ⟨w2.heap.size + 1 + 1, 0, none⟩) 1 1, .slice (some ⟨w2.heap.size + 1 + 1 + 1, 0, none⟩) 1 1, .slice (some ⟨w2.heap.size + 1 + 1 + 1 + 1, 0, none⟩) 1 1, .slice (some ⟨w2.heap.size + 1 + 1 + 1 + 1 + 1, 0, none⟩) 2 2, .slice (some ⟨w2.heap.size + 1 + 1 + 1 + 1 + 1 + 1, 0, none⟩) 2 2] 36)) →
    Kd.C (Kd.int .u8) W0 (some ⟨w2.heap.size, 0, none⟩) 6 [97, 98, 99, 100, 101, 102] ∧
    Kd.C k35 W0 (some ⟨w2.heap.size + 1, 0, none⟩) 1 ([⟨(-1), 0, ⟨#[]⟩⟩] : List S35) ∧
    Kd.C k35 W0 (some ⟨w2.heap.size + 1 + 1, 0, none⟩) 1 ([⟨3, 2, ⟨#[]⟩⟩] : List S35) ∧
    Kd.C k35 W0 (some ⟨w2.heap.size + 1 + 1 + 1, 0, none⟩) 1 ([⟨0, 7, ⟨#[]⟩⟩] : List S35) ∧
    Kd.C k35 W0 (some ⟨w2.heap.size + 1 + 1 + 1 + 1, 0, none⟩) 1 ([⟨7, 7, ⟨#[]⟩⟩] : List S35) ∧
    Kd.C k35 W0 (some ⟨w2.heap.size + 1 + 1 + 1 + 1 + 1, 0, none⟩) 2 ([⟨0, 3, ⟨#[]⟩⟩, ⟨2, 4, ⟨#[]⟩⟩] : List S35) ∧
    Kd.C k35 W0 (some ⟨w2.heap.size + 1 + 1 + 1 + 1 + 1 + 1, 0, none⟩) 2 ([⟨4, 4, ⟨#[]⟩⟩, ⟨1, 1, ⟨#[]⟩⟩] : List S35) ∧
    W0.cell? ⟨w2.heap.size + 1 + 1 + 1 + 1 + 1 + 1 + 1, 0, none⟩ = some (.slice (some ⟨w2.heap.size + 1, 0, none⟩) 1 1) ∧
    W0.cell? ⟨w2.heap.size + 1 + 1 + 1 + 1 + 1 + 1 + 1, 1, none⟩ = some (.slice (some ⟨w2.heap.size + 1 + 1, 0, none⟩) 1 1) ∧
    W0.cell? ⟨w2.heap.size + 1 + 1 + 1 + 1 + 1 + 1 + 1, 2, none⟩ = some (.slice (some ⟨w2.heap.size + 1 + 1 + 1, 0, none⟩) 1 1) ∧
    W0.cell? ⟨w2.heap.size + 1 + 1 + 1 + 1 + 1 + 1 + 1, 3, none⟩ = some (.slice (some ⟨w2.heap.size + 1 + 1 + 1 + 1, 0, none⟩) 1 1) ∧
    W0.cell? ⟨w2.heap.size + 1 + 1 + 1 + 1 + 1 + 1 + 1, 4, none⟩ = some (.slice (some ⟨w2.heap.size + 1 + 1 + 1 + 1 + 1, 0, none⟩) 2 2) ∧
    W0.cell? ⟨w2.heap.size + 1 + 1 + 1 + 1 + 1 + 1 + 1, 5, none⟩ = some (.slice (some ⟨w2.heap.size + 1 + 1 + 1 + 1 + 1 + 1, 0, none⟩) 2 2) ∧
    Below w2.heap.size w2 W0 := by
  rintro W0 rfl
  refine ⟨?_, ?_, ?_, ?_, ?_, ?_, ?_, ?_, ?_, ?_, ?_, ?_, ?_, ?_⟩
  · have h := Kd.C_block (h1 := fun _ => rfl) (enc := Value.int .u8) (0 : Int) (xs := [97, 98, 99, 100, 101, 102]) (blk_top w2 (.cells #[.int .u8 97, .int .u8 98, .int .u8 99, .int .u8 100, .int .u8 101, .int .u8 102] 5 (6, 7))) rfl (by decide)
    exact Kd.C_alloc (Kd.C_alloc (Kd.C_alloc (Kd.C_alloc (Kd.C_alloc (Kd.C_alloc (Kd.C_alloc (h) _) _) _) _) _) _) _
  · have h := lit_row (w2.alloc (.cells #[.int .u8 97, .int .u8 98, .int .u8 99, .int .u8 100, .int .u8 101, .int .u8 102] 5 (6, 7))) [.int .i64 (-1), .int .i64 0, .string ⟨#[]⟩] [⟨(-1), 0, ⟨#[]⟩⟩] (Reps.c3 (k35_mkM _ _ _ (⟨(-1), 0, ⟨#[]⟩⟩ : S35)) (Reps.none _ _)) (by decide)
    rw [show ((w2.alloc (.cells #[.int .u8 97, .int .u8 98, .int .u8 99, .int .u8 100, .int .u8 101, .int .u8 102] 5 (6, 7)))).heap.size = w2.heap.size + 1 by simp] at h
    exact Kd.C_alloc (Kd.C_alloc (Kd.C_alloc (Kd.C_alloc (Kd.C_alloc (Kd.C_alloc (h) _) _) _) _) _) _
  · have h := lit_row ((w2.alloc (.cells #[.int .u8 97, .int .u8 98, .int .u8 99, .int .u8 100, .int .u8 101, .int .u8 102] 5 (6, 7))).alloc (.cells #[.int .i64 (-1), .int .i64 0, .string ⟨#[]⟩] 35)) [.int .i64 3, .int .i64 2, .string ⟨#[]⟩] [⟨3, 2, ⟨#[]⟩⟩] (Reps.c3 (k35_mkM _ _ _ (⟨3, 2, ⟨#[]⟩⟩ : S35)) (Reps.none _ _)) (by decide)
    rw [show (((w2.alloc (.cells #[.int .u8 97, .int .u8 98, .int .u8 99, .int .u8 100, .int .u8 101, .int .u8 102] 5 (6, 7))).alloc (.cells #[.int .i64 (-1), .int .i64 0, .string ⟨#[]⟩] 35))).heap.size = w2.heap.size + 1 + 1 by simp] at h
    exact Kd.C_alloc (Kd.C_alloc (Kd.C_alloc (Kd.C_alloc (Kd.C_alloc (h) _) _) _) _) _
  · have h := lit_row (((w2.alloc (.cells #[.int .u8 97, .int .u8 98, .int .u8 99, .int .u8 100, .int .u8 101, .int .u8 102] 5 (6, 7))).alloc (.cells #[.int .i64 (-1), .int .i64 0, .string ⟨#[]⟩] 35)).alloc (.cells #[.int .i64 3, .int .i64 2, .string ⟨#[]⟩] 35)) [.int .i64 0, .int .i64 7, .string ⟨#[]⟩] [⟨0, 7, ⟨#[]⟩⟩] (Reps.c3 (k35_mkM _ _ _ (⟨0, 7, ⟨#[]⟩⟩ : S35)) (Reps.none _ _)) (by decide)
    rw [show ((((w2.alloc (.cells #[.int .u8 97, .int .u8 98, .int .u8 99, .int .u8 100, .int .u8 101, .int .u8 102] 5 (6, 7))).alloc (.cells #[.int .i64 (-1), .int .i64 0, .string ⟨#[]⟩] 35)).alloc (.cells #[.int .i64 3, .int .i64 2, .string ⟨#[]⟩] 35))).heap.size = w2.heap.size + 1 + 1 + 1 by simp] at h
    exact Kd.C_alloc (Kd.C_alloc (Kd.C_alloc (Kd.C_alloc (h) _) _) _) _
  · have h := lit_row ((((w2.alloc (.cells #[.int .u8 97, .int .u8 98, .int .u8 99, .int .u8 100, .int .u8 101, .int .u8 102] 5 (6, 7))).alloc (.cells #[.int .i64 (-1), .int .i64 0, .string ⟨#[]⟩] 35)).alloc (.cells #[.int .i64 3, .int .i64 2, .string ⟨#[]⟩] 35)).alloc (.cells #[.int .i64 0, .int .i64 7, .string ⟨#[]⟩] 35)) [.int .i64 7, .int .i64 7, .string ⟨#[]⟩] [⟨7, 7, ⟨#[]⟩⟩] (Reps.c3 (k35_mkM _ _ _ (⟨7, 7, ⟨#[]⟩⟩ : S35)) (Reps.none _ _)) (by decide)
    rw [show (((((w2.alloc (.cells #[.int .u8 97, .int .u8 98, .int .u8 99, .int .u8 100, .int .u8 101, .int .u8 102] 5 (6, 7))).alloc (.cells #[.int .i64 (-1), .int .i64 0, .string ⟨#[]⟩] 35)).alloc (.cells #[.int .i64 3, .int .i64 2, .string ⟨#[]⟩] 35)).alloc (.cells #[.int .i64 0, .int .i64 7, .string ⟨#[]⟩] 35))).heap.size = w2.heap.size + 1 + 1 + 1 + 1 by simp] at h
    exact Kd.C_alloc (Kd.C_alloc (Kd.C_alloc (h) _) _) _
  · have h := lit_row (((((w2.alloc (.cells #[.int .u8 97, .int .u8 98, .int .u8 99, .int .u8 100, .int .u8 101, .int .u8 102] 5 (6, 7))).alloc (.cells #[.int .i64 (-1), .int .i64 0, .string ⟨#[]⟩] 35)).alloc (.cells #[.int .i64 3, .int .i64 2, .string ⟨#[]⟩] 35)).alloc (.cells #[.int .i64 0, .int .i64 7, .string ⟨#[]⟩] 35)).alloc (.cells #[.int .i64 7, .int .i64 7, .string ⟨#[]⟩] 35)) [.int .i64 0, .int .i64 3, .string ⟨#[]⟩, .int .i64 2, .int .i64 4, .string ⟨#[]⟩] [⟨0, 3, ⟨#[]⟩⟩, ⟨2, 4, ⟨#[]⟩⟩] (Reps.c3 (k35_mkM _ _ _ (⟨0, 3, ⟨#[]⟩⟩ : S35)) (Reps.c3 (k35_mkM _ _ _ (⟨2, 4, ⟨#[]⟩⟩ : S35)) (Reps.none _ _))) (by decide)
    rw [show ((((((w2.alloc (.cells #[.int .u8 97, .int .u8 98, .int .u8 99, .int .u8 100, .int .u8 101, .int .u8 102] 5 (6, 7))).alloc (.cells #[.int .i64 (-1), .int .i64 0, .string ⟨#[]⟩] 35)).alloc (.cells #[.int .i64 3, .int .i64 2, .string ⟨#[]⟩] 35)).alloc (.cells #[.int .i64 0, .int .i64 7, .string ⟨#[]⟩] 35)).alloc (.cells #[.int .i64 7, .int .i64 7, .string ⟨#[]⟩] 35))).heap.size = w2.heap.size + 1 + 1 + 1 + 1 + 1 by simp] at h
    exact Kd.C_alloc (Kd.C_alloc (h) _) _
  · have h := lit_row ((((((w2.alloc (.cells #[.int .u8 97, .int .u8 98, .int .u8 99, .int .u8 100, .int .u8 101, .int .u8 102] 5 (6, 7))).alloc (.cells #[.int .i64 (-1), .int .i64 0, .string ⟨#[]⟩] 35)).alloc (.cells #[.int .i64 3, .int .i64 2, .string ⟨#[]⟩] 35)).alloc (.cells #[.int .i64 0, .int .i64 7, .string ⟨#[]⟩] 35)).alloc (.cells #[.int .i64 7, .int .i64 7, .string ⟨#[]⟩] 35)).alloc (.cells #[.int .i64 0, .int .i64 3, .string ⟨#[]⟩, .int .i64 2, .int .i64 4, .string ⟨#[]⟩] 35)) [.int .i64 4, .int .i64 4, .string ⟨#[]⟩, .int .i64 1, .int .i64 1, .string ⟨#[]⟩] [⟨4, 4, ⟨#[]⟩⟩, ⟨1, 1, ⟨#[]⟩⟩] (Reps.c3 (k35_mkM _ _ _ (⟨4, 4, ⟨#[]⟩⟩ : S35)) (Reps.c3 (k35_mkM _ _ _ (⟨1, 1, ⟨#[]⟩⟩ : S35)) (Reps.none _ _))) (by decide)
    rw [show (((((((w2.alloc (.cells #[.int .u8 97, .int .u8 98, .int .u8 99, .int .u8 100, .int .u8 101, .int .u8 102] 5 (6, 7))).alloc (.cells #[.int .i64 (-1), .int .i64 0, .string ⟨#[]⟩] 35)).alloc (.cells #[.int .i64 3, .int .i64 2, .string ⟨#[]⟩] 35)).alloc (.cells #[.int .i64 0, .int .i64 7, .string ⟨#[]⟩] 35)).alloc (.cells #[.int .i64 7, .int .i64 7, .string ⟨#[]⟩] 35)).alloc (.cells #[.int .i64 0, .int .i64 3, .string ⟨#[]⟩, .int .i64 2, .int .i64 4, .string ⟨#[]⟩] 35))).heap.size = w2.heap.size + 1 + 1 + 1 + 1 + 1 + 1 by simp] at h
    exact Kd.C_alloc (h) _
  · have h := blk_cell (blk_top (((((((w2.alloc (.cells #[.int .u8 97, .int .u8 98, .int .u8 99, .int .u8 100, .int .u8 101, .int .u8 102] 5 (6, 7))).alloc (.cells #[.int .i64 (-1), .int .i64 0, .string ⟨#[]⟩] 35)).alloc (.cells #[.int .i64 3, .int .i64 2, .string ⟨#[]⟩] 35)).alloc (.cells #[.int .i64 0, .int .i64 7, .string ⟨#[]⟩] 35)).alloc (.cells #[.int .i64 7, .int .i64 7, .string ⟨#[]⟩] 35)).alloc (.cells #[.int .i64 0, .int .i64 3, .string ⟨#[]⟩, .int .i64 2, .int .i64 4, .string ⟨#[]⟩] 35)).alloc (.cells #[.int .i64 4, .int .i64 4, .string ⟨#[]⟩, .int .i64 1, .int .i64 1, .string ⟨#[]⟩] 35)) (.cells #[.slice (some ⟨w2.heap.size + 1, 0, none⟩) 1 1, .slice (some ⟨w2.heap.size + 1 + 1, 0, none⟩) 1 1, .slice (some ⟨w2.heap.size + 1 + 1 + 1, 0, none⟩) 1 1, .slice (some ⟨w2.heap.size + 1 + 1 + 1 + 1, 0, none⟩) 1 1, .slice (some ⟨w2.heap.size + 1 + 1 + 1 + 1 + 1, 0, none⟩) 2 2, .slice (some ⟨w2.heap.size + 1 + 1 + 1 + 1 + 1 + 1, 0, none⟩) 2 2] 36)) 0
    rw [show ((((((((w2.alloc (.cells #[.int .u8 97, .int .u8 98, .int .u8 99, .int .u8 100, .int .u8 101, .int .u8 102] 5 (6, 7))).alloc (.cells #[.int .i64 (-1), .int .i64 0, .string ⟨#[]⟩] 35)).alloc (.cells #[.int .i64 3, .int .i64 2, .string ⟨#[]⟩] 35)).alloc (.cells #[.int .i64 0, .int .i64 7, .string ⟨#[]⟩] 35)).alloc (.cells #[.int .i64 7, .int .i64 7, .string ⟨#[]⟩] 35)).alloc (.cells #[.int .i64 0, .int .i64 3, .string ⟨#[]⟩, .int .i64 2, .int .i64 4, .string ⟨#[]⟩] 35)).alloc (.cells #[.int .i64 4, .int .i64 4, .string ⟨#[]⟩, .int .i64 1, .int .i64 1, .string ⟨#[]⟩] 35))).heap.size = w2.heap.size + 1 + 1 + 1 + 1 + 1 + 1 + 1 by simp] at h
    exact h.trans rfl
  · have h := blk_cell (blk_top (((((((w2.alloc (.cells #[.int .u8 97, .int .u8 98, .int .u8 99, .int .u8 100, .int .u8 101, .int .u8 102] 5 (6, 7))).alloc (.cells #[.int .i64 (-1), .int .i64 0, .string ⟨#[]⟩] 35)).alloc (.cells #[.int .i64 3, .int .i64 2, .string ⟨#[]⟩] 35)).alloc (.cells #[.int .i64 0, .int .i64 7, .string ⟨#[]⟩] 35)).alloc (.cells #[.int .i64 7, .int .i64 7, .string ⟨#[]⟩] 35)).alloc (.cells #[.int .i64 0, .int .i64 3, .string ⟨#[]⟩, .int .i64 2, .int .i64 4, .string ⟨#[]⟩] 35)).alloc (.cells #[.int .i64 4, .int .i64 4, .string ⟨#[]⟩, .int .i64 1, .int .i64 1, .string ⟨#[]⟩] 35)) (.cells #[.slice (some ⟨w2.heap.size + 1, 0, none⟩) 1 1, .slice (some ⟨w2.heap.size + 1 + 1, 0, none⟩) 1 1, .slice (some ⟨w2.heap.size + 1 + 1 + 1, 0, none⟩) 1 1, .slice (some ⟨w2.heap.size + 1 + 1 + 1 + 1, 0, none⟩) 1 1, .slice (some ⟨w2.heap.size + 1 + 1 + 1 + 1 + 1, 0, none⟩) 2 2, .slice (some ⟨w2.heap.size + 1 + 1 + 1 + 1 + 1 + 1, 0, none⟩) 2 2] 36)) 1
    rw [show ((((((((w2.alloc (.cells #[.int .u8 97, .int .u8 98, .int .u8 99, .int .u8 100, .int .u8 101, .int .u8 102] 5 (6, 7))).alloc (.cells #[.int .i64 (-1), .int .i64 0, .string ⟨#[]⟩] 35)).alloc (.cells #[.int .i64 3, .int .i64 2, .string ⟨#[]⟩] 35)).alloc (.cells #[.int .i64 0, .int .i64 7, .string ⟨#[]⟩] 35)).alloc (.cells #[.int .i64 7, .int .i64 7, .string ⟨#[]⟩] 35)).alloc (.cells #[.int .i64 0, .int .i64 3, .string ⟨#[]⟩, .int .i64 2, .int .i64 4, .string ⟨#[]⟩] 35)).alloc (.cells #[.int .i64 4, .int .i64 4, .string ⟨#[]⟩, .int .i64 1, .int .i64 1, .string ⟨#[]⟩] 35))).heap.size = w2.heap.size + 1 + 1 + 1 + 1 + 1 + 1 + 1 by simp] at h
    exact h.trans rfl
  · have h := blk_cell (blk_top (((((((w2.alloc (.cells #[.int .u8 97, .int .u8 98, .int .u8 99, .int .u8 100, .int .u8 101, .int .u8 102] 5 (6, 7))).alloc (.cells #[.int .i64 (-1), .int .i64 0, .string ⟨#[]⟩] 35)).alloc (.cells #[.int .i64 3, .int .i64 2, .string ⟨#[]⟩] 35)).alloc (.cells #[.int .i64 0, .int .i64 7, .string ⟨#[]⟩] 35)).alloc (.cells #[.int .i64 7, .int .i64 7, .string ⟨#[]⟩] 35)).alloc (.cells #[.int .i64 0, .int .i64 3, .string ⟨#[]⟩, .int .i64 2, .int .i64 4, .string ⟨#[]⟩] 35)).alloc (.cells #[.int .i64 4, .int .i64 4, .string ⟨#[]⟩, .int .i64 1, .int .i64 1, .string ⟨#[]⟩] 35)) (.cells #[.slice (some ⟨w2.heap.size + 1, 0, none⟩) 1 1, .slice (some ⟨w2.heap.size + 1 + 1, 0, none⟩) 1 1, .slice (some ⟨w2.heap.size + 1 + 1 + 1, 0, none⟩) 1 1, .slice (some ⟨w2.heap.size + 1 + 1 + 1 + 1, 0, none⟩) 1 1, .slice (some ⟨w2.heap.size + 1 + 1 + 1 + 1 + 1, 0, none⟩) 2 2, .slice (some ⟨w2.heap.size + 1 + 1 + 1 + 1 + 1 + 1, 0, none⟩) 2 2] 36)) 2
    rw [show ((((((((w2.alloc (.cells #[.int .u8 97, .int .u8 98, .int .u8 99, .int .u8 100, .int .u8 101, .int .u8 102] 5 (6, 7))).alloc (.cells #[.int .i64 (-1), .int .i64 0, .string ⟨#[]⟩] 35)).alloc (.cells #[.int .i64 3, .int .i64 2, .string ⟨#[]⟩] 35)).alloc (.cells #[.int .i64 0, .int .i64 7, .string ⟨#[]⟩] 35)).alloc (.cells #[.int .i64 7, .int .i64 7, .string ⟨#[]⟩] 35)).alloc (.cells #[.int .i64 0, .int .i64 3, .string ⟨#[]⟩, .int .i64 2, .int .i64 4, .string ⟨#[]⟩] 35)).alloc (.cells #[.int .i64 4, .int .i64 4, .string ⟨#[]⟩, .int .i64 1, .int .i64 1, .string ⟨#[]⟩] 35))).heap.size = w2.heap.size + 1 + 1 + 1 + 1 + 1 + 1 + 1 by simp] at h
    exact h.trans rfl
  · have h := blk_cell (blk_top (((((((w2.alloc (.cells #[.int .u8 97, .int .u8 98, .int .u8 99, .int .u8 100, .int .u8 101, .int .u8 102] 5 (6, 7))).alloc (.cells #[.int .i64 (-1), .int .i64 0, .string ⟨#[]⟩] 35)).alloc (.cells #[.int .i64 3, .int .i64 2, .string ⟨#[]⟩] 35)).alloc (.cells #[.int .i64 0, .int .i64 7, .string ⟨#[]⟩] 35)).alloc (.cells #[.int .i64 7, .int .i64 7, .string ⟨#[]⟩] 35)).alloc (.cells #[.int .i64 0, .int .i64 3, .string ⟨#[]⟩, .int .i64 2, .int .i64 4, .string ⟨#[]⟩] 35)).alloc (.cells #[.int .i64 4, .int .i64 4, .string ⟨#[]⟩, .int .i64 1, .int .i64 1, .string ⟨#[]⟩] 35)) (.cells #[.slice (some ⟨w2.heap.size + 1, 0, none⟩) 1 1, .slice (some ⟨w2.heap.size + 1 + 1, 0, none⟩) 1 1, .slice (some ⟨w2.heap.size + 1 + 1 + 1, 0, none⟩) 1 1, .slice (some ⟨w2.heap.size + 1 + 1 + 1 + 1, 0, none⟩) 1 1, .slice (some ⟨w2.heap.size + 1 + 1 + 1 + 1 + 1, 0, none⟩) 2 2, .slice (some ⟨w2.heap.size + 1 + 1 + 1 + 1 + 1 + 1, 0, none⟩) 2 2] 36)) 3
    rw [show ((((((((w2.alloc (.cells #[.int .u8 97, .int .u8 98, .int .u8 99, .int .u8 100, .int .u8 101, .int .u8 102] 5 (6, 7))).alloc (.cells #[.int .i64 (-1), .int .i64 0, .string ⟨#[]⟩] 35)).alloc (.cells #[.int .i64 3, .int .i64 2, .string ⟨#[]⟩] 35)).alloc (.cells #[.int .i64 0, .int .i64 7, .string ⟨#[]⟩] 35)).alloc (.cells #[.int .i64 7, .int .i64 7, .string ⟨#[]⟩] 35)).alloc (.cells #[.int .i64 0, .int .i64 3, .string ⟨#[]⟩, .int .i64 2, .int .i64 4, .string ⟨#[]⟩] 35)).alloc (.cells #[.int .i64 4, .int .i64 4, .string ⟨#[]⟩, .int .i64 1, .int .i64 1, .string ⟨#[]⟩] 35))).heap.size = w2.heap.size + 1 + 1 + 1 + 1 + 1 + 1 + 1 by simp] at h
    exact h.trans rfl
  · have h := blk_cell (blk_top (((((((w2.alloc (.cells #[.int .u8 97, .int .u8 98, .int .u8 99, .int .u8 100, .int .u8 101, .int .u8 102] 5 (6, 7))).alloc (.cells #[.int .i64 (-1), .int .i64 0, .string ⟨#[]⟩] 35)).alloc (.cells #[.int .i64 3, .int .i64 2, .string ⟨#[]⟩] 35)).alloc (.cells #[.int .i64 0, .int .i64 7, .string ⟨#[]⟩] 35)).alloc (.cells #[.int .i64 7, .int .i64 7, .string ⟨#[]⟩] 35)).alloc (.cells #[.int .i64 0, .int .i64 3, .string ⟨#[]⟩, .int .i64 2, .int .i64 4, .string ⟨#[]⟩] 35)).alloc (.cells #[.int .i64 4, .int .i64 4, .string ⟨#[]⟩, .int .i64 1, .int .i64 1, .string ⟨#[]⟩] 35)) (.cells #[.slice (some ⟨w2.heap.size + 1, 0, none⟩) 1 1, .slice (some ⟨w2.heap.size + 1 + 1, 0, none⟩) 1 1, .slice (some ⟨w2.heap.size + 1 + 1 + 1, 0, none⟩) 1 1, .slice (some ⟨w2.heap.size + 1 + 1 + 1 + 1, 0, none⟩) 1 1, .slice (some ⟨w2.heap.size + 1 + 1 + 1 + 1 + 1, 0, none⟩) 2 2, .slice (some ⟨w2.heap.size + 1 + 1 + 1 + 1 + 1 + 1, 0, none⟩) 2 2] 36)) 4
    rw [show ((((((((w2.alloc (.cells #[.int .u8 97, .int .u8 98, .int .u8 99, .int .u8 100, .int .u8 101, .int .u8 102] 5 (6, 7))).alloc (.cells #[.int .i64 (-1), .int .i64 0, .string ⟨#[]⟩] 35)).alloc (.cells #[.int .i64 3, .int .i64 2, .string ⟨#[]⟩] 35)).alloc (.cells #[.int .i64 0, .int .i64 7, .string ⟨#[]⟩] 35)).alloc (.cells #[.int .i64 7, .int .i64 7, .string ⟨#[]⟩] 35)).alloc (.cells #[.int .i64 0, .int .i64 3, .string ⟨#[]⟩, .int .i64 2, .int .i64 4, .string ⟨#[]⟩] 35)).alloc (.cells #[.int .i64 4, .int .i64 4, .string ⟨#[]⟩, .int .i64 1, .int .i64 1, .string ⟨#[]⟩] 35))).heap.size = w2.heap.size + 1 + 1 + 1 + 1 + 1 + 1 + 1 by simp] at h
    exact h.trans rfl
  · have h := blk_cell (blk_top (((((((w2.alloc (.cells #[.int .u8 97, .int .u8 98, .int .u8 99, .int .u8 100, .int .u8 101, .int .u8 102] 5 (6, 7))).alloc (.cells #[.int .i64 (-1), .int .i64 0, .string ⟨#[]⟩] 35)).alloc (.cells #[.int .i64 3, .int .i64 2, .string ⟨#[]⟩] 35)).alloc (.cells #[.int .i64 0, .int .i64 7, .string ⟨#[]⟩] 35)).alloc (.cells #[.int .i64 7, .int .i64 7, .string ⟨#[]⟩] 35)).alloc (.cells #[.int .i64 0, .int .i64 3, .string ⟨#[]⟩, .int .i64 2, .int .i64 4, .string ⟨#[]⟩] 35)).alloc (.cells #[.int .i64 4, .int .i64 4, .string ⟨#[]⟩, .int .i64 1, .int .i64 1, .string ⟨#[]⟩] 35)) (.cells #[.slice (some ⟨w2.heap.size + 1, 0, none⟩) 1 1, .slice (some ⟨w2.heap.size + 1 + 1, 0, none⟩) 1 1, .slice (some ⟨w2.heap.size + 1 + 1 + 1, 0, none⟩) 1 1, .slice (some ⟨w2.heap.size + 1 + 1 + 1 + 1, 0, none⟩) 1 1, .slice (some ⟨w2.heap.size + 1 + 1 + 1 + 1 + 1, 0, none⟩) 2 2, .slice (some ⟨w2.heap.size + 1 + 1 + 1 + 1 + 1 + 1, 0, none⟩) 2 2] 36)) 5
    rw [show ((((((((w2.alloc (.cells #[.int .u8 97, .int .u8 98, .int .u8 99, .int .u8 100, .int .u8 101, .int .u8 102] 5 (6, 7))).alloc (.cells #[.int .i64 (-1), .int .i64 0, .string ⟨#[]⟩] 35)).alloc (.cells #[.int .i64 3, .int .i64 2, .string ⟨#[]⟩] 35)).alloc (.cells #[.int .i64 0, .int .i64 7, .string ⟨#[]⟩] 35)).alloc (.cells #[.int .i64 7, .int .i64 7, .string ⟨#[]⟩] 35)).alloc (.cells #[.int .i64 0, .int .i64 3, .string ⟨#[]⟩, .int .i64 2, .int .i64 4, .string ⟨#[]⟩] 35)).alloc (.cells #[.int .i64 4, .int .i64 4, .string ⟨#[]⟩, .int .i64 1, .int .i64 1, .string ⟨#[]⟩] 35))).heap.size = w2.heap.size + 1 + 1 + 1 + 1 + 1 + 1 + 1 by simp] at h
    exact h.trans rfl
  · exact below_alloc (below_alloc (below_alloc (below_alloc (below_alloc (below_alloc (below_alloc (below_alloc (Below.refl w2.heap.size w2) _) _) _) _) _) _) _) _
/-- A row that is no valid one: Do refuses it. -/
theorem limits_do_bad {W0 : World} {A B : Option Addr} {m : Nat} (c0 : Kd.C (Kd.int .u8) W0 A 6 [97, 98, 99, 100, 101, 102]) {xs : List S35} (hx : xs.length = m) (c1 : Kd.C k35 W0 B m xs) (hv : vld 6 0 xs = false) (hl : xs.length ≤ 3) (W : World) (hb : Below W0.heap.size W0 W) :
    Calls Try.prog 18 #[.slice A 6 6, .slice B m m] W fun e w' => ∃ v : Value, e = .returned (.tuple #[v, .int .i64 11]) ∧ Below W.heap.size W w' := by
  subst hx
  refine (splice_Do.calls 10 A 6 [97, 98, 99, 100, 101, 102] B xs.length xs [] 11 W (Kd.C_below c0 hb) (by decide) (Kd.C_below c1 hb) (Nat.le_refl _) (do_bad [97, 98, 99, 100, 101, 102] xs (by omega) (by simpa using hv) 10 (by omega))).mono ?_
  rintro e w' ⟨v, rfl, _, hb⟩
  exact ⟨v, rfl, hb⟩
theorem limits_valid {W0 : World} {B : Option Addr} {m : Nat} {xs : List S35} (hx : xs.length = m) (c1 : Kd.C k35 W0 B m xs) (b : Bool) (hv : vld 6 0 xs = b) (hl : xs.length ≤ 3) (W : World) (hb : Below W0.heap.size W0 W) :
    Calls Try.prog 19 #[.int .i64 6, .slice B m m] W fun e w' => e = .returned (.bool b) ∧ Below W.heap.size W w' := by
  subst hx
  refine (splice_Valid.calls 10 6 B xs.length xs b W (Kd.C_below c1 hb) (Nat.le_refl _) (by rw [valid_some 6 xs (by omega) 10 (by omega), hv])).mono ?_
  rintro e w' ⟨rfl, hb⟩
  exact ⟨rfl, hb⟩
set_option maxRecDepth 100000 in
set_option maxHeartbeats 4000000 in
theorem limits_walk (n : Int) (w : World) : Calls Try.prog 4 #[.int .i64 n] w fun e w' => e = .returned (.bool true) ∧ Below w.heap.size w w' := by
  obtain ⟨r, hr, hr0, hr1⟩ := within_some n 3 (by omega) (by omega)
  obtain ⟨r, rfl⟩ := Int.eq_ofNat_of_zero_le hr0
  have hu35 := Try.underlying35
  have kc := fun (W : World) (C : Array Value) (n c g : Nat) (hg : g = W.heap.size) => Go.Joins.run_convert_bytes_const_at (P := Try.prog) W 22 5 C n c g hg Try.underlying22 Try.underlying5
  have hmk : ∀ W : World, (Instr.makeSlice 22 (.int .i64 (65535 + (r : Int) - 5)) (.int .i64 (65535 + (r : Int) - 5))).run Try.prog W = .ok (.slice (some ⟨W.heap.size, 0, none⟩) (65530 + r) (65530 + r)) (W.alloc (.cells (madeCells #[.int .u8 0] (65530 + r)) 5)) := by
    rw [show (65535 + (r : Int) - 5) = ((65530 + r : Nat) : Int) by omega]
    exact print_make 22 5 .u8 1 Try.underlying22 info5 (by decide) (65530 + r) (by omega)
  go_enter Try.func4, Try.ntmps4
  go_wp2_with fail
  refine (scholiumkeep_Within.calls n 3 _ _ hr).mono ?_
  rintro e w1 ⟨rfl, hb1⟩
  have HB := Aside0.mk hb1
  clear hb1
  go_wp2_with fail
  obtain ⟨M, hM⟩ : ∃ M, M = 65530 + r := ⟨_, rfl⟩
  have hb := below_alloc (below_alloc HB.out (.cells (madeCells #[.int .u8 0] (65530 + r)) 5)) (.cells #[.int .i64 3, .int .i64 3, .string ⟨#[49, 50, 51, 52, 53]⟩] 35)
  have h0 := blk_under (.cells #[.int .i64 3, .int .i64 3, .string ⟨#[49, 50, 51, 52, 53]⟩] 35) (blk_top w1 (.cells (madeCells #[.int .u8 0] (65530 + r)) 5))
  have c0 := Kd.C_block (h1 := fun _ => rfl) (enc := Value.int .u8) (0 : Int) (xs := List.replicate (65530 + r) 0) h0 (made_list _) (by rw [List.length_replicate]; omega)
  have c1 := lit_row (w1.alloc (.cells (madeCells #[.int .u8 0] (65530 + r)) 5)) [.int .i64 3, .int .i64 3, .string ⟨#[49, 50, 51, 52, 53]⟩] [⟨3, 3, ⟨#[49, 50, 51, 52, 53]⟩⟩] (Reps.c3 (k35_mkM _ _ _ (⟨3, 3, ⟨#[49, 50, 51, 52, 53]⟩⟩ : S35)) (Reps.none _ _)) (by simp)
  have hz : (w1.alloc (.cells (madeCells #[.int .u8 0] (65530 + r)) 5)).heap.size = w1.heap.size + 1 := by simp
  rw [hz] at c1
  have hcall := fun R1 R2 => splice_Do.calls 10 (some ⟨w1.heap.size, 0, none⟩) (65530 + r) (List.replicate (65530 + r) 0) (some ⟨w1.heap.size + 1, 0, none⟩) 1 [⟨3, 3, ⟨#[49, 50, 51, 52, 53]⟩⟩] R1 R2 _ c0 (by rw [List.length_replicate]; omega) c1 (by simp)
  simp only [List.length_replicate, List.length_singleton] at hcall
  have hres : ∃ R1 R2, splice_Do.f 10 (List.replicate (65530 + r) 0) [⟨3, 3, ⟨#[49, 50, 51, 52, 53]⟩⟩] = some (R1, R2) ∧ ((r ≤ 1 ∧ R2 = 0) ∨ (r = 2 ∧ R2 = 10 ∧ R1 = [])) := by
    by_cases hr2 : r ≤ 1
    · exact ⟨_, _, limits_small (65530 + r) (by omega) (by omega), .inl ⟨hr2, rfl⟩⟩
    · obtain rfl : r = 2 := by omega
      exact ⟨_, _, limits_big, .inr ⟨rfl, rfl, rfl⟩⟩
  obtain ⟨R1, R2, hR, hcase⟩ := hres
  refine (hcall R1 R2 hR).mono ?_
  rintro e w2 ⟨v, rfl, hv, hb2⟩
  obtain ⟨A, c, rfl, _, _⟩ := Kd.R_reads hv
  have HB2 := Aside0.mk (below_step hb hb2)
  clear hcall hb hb2 h0 c0 c1 hz hv HB hmk hM hR
  rcases hcase with ⟨hr2, rfl⟩ | ⟨rfl, rfl, rfl⟩
  all_goals
    go_wp2_with fail
    obtain ⟨W0, hW0⟩ : ∃ W0 : World, W0 = ((((((((w2.alloc (.cells #[.int .u8 97, .int .u8 98, .int .u8 99, .int .u8 100, .int .u8 101, .int .u8 102] 5 (6, 7))).alloc (.cells #[.int .i64 (-1), .int .i64 0, .string ⟨#[]⟩] 35)).alloc (.cells #[.int .i64 3, .int .i64 2, .string ⟨#[]⟩] 35)).alloc (.cells #[.int .i64 0, .int .i64 7, .string ⟨#[]⟩] 35)).alloc (.cells #[.int .i64 7, .int .i64 7, .string ⟨#[]⟩] 35)).alloc (.cells #[.int .i64 0, .int .i64 3, .string ⟨#[]⟩, .int .i64 2, .int .i64 4, .string ⟨#[]⟩] 35)).alloc (.cells #[.int .i64 4, .int .i64 4, .string ⟨#[]⟩, .int .i64 1, .int .i64 1, .string ⟨#[]⟩] 35)).alloc (.cells #[.slice (some ⟨w2.heap.size + 1, 0, none⟩) 1 1, .slice (some ⟨w2.heap.size + 1 + 1, 0, none⟩) 1 1, .slice (some ⟨w2.heap.size + 1 + 1 + 1, 0, none⟩) 1 1, .slice (some ⟨w2.heap.size + 1 + 1 + 1 + 1, 0, none⟩) 1 1, .slice (some ⟨w2.heap.size + 1 + 1 + 1 + 1 + 1, 0, none⟩) 2 2, .slice (some ⟨w2.heap.size + 1 + 1 + 1 + 1 + 1 + 1, 0, none⟩) 2 2] 36)) := ⟨_, rfl⟩
    obtain ⟨cc, r0, r1, r2, r3, r4, r5, g0, g1, g2, g3, g4, g5, hbl⟩ := limits_rows w2 W0 hW0
    rw [← hW0]
    have HW := Aside0.mk (below_step HB2.out hbl)
    clear hW0 hbl kc HB2 hu35
    have G0 := Aside0.mk g0
    have G1 := Aside0.mk g1
    have G2 := Aside0.mk g2
    have G3 := Aside0.mk g3
    have G4 := Aside0.mk g4
    have G5 := Aside0.mk g5
    have D0 := Aside0.mk (limits_do_bad cc rfl r0 (by decide) (by decide))
    have D1 := Aside0.mk (limits_do_bad cc rfl r1 (by decide) (by decide))
    have D2 := Aside0.mk (limits_do_bad cc rfl r2 (by decide) (by decide))
    have D3 := Aside0.mk (limits_do_bad cc rfl r3 (by decide) (by decide))
    have D4 := Aside0.mk (limits_do_bad cc rfl r4 (by decide) (by decide))
    have D5 := Aside0.mk (limits_do_bad cc rfl r5 (by decide) (by decide))
    have V0 := Aside0.mk (limits_valid rfl r0 false (by decide) (by decide))
    have V1 := Aside0.mk (limits_valid rfl r1 false (by decide) (by decide))
    have V2 := Aside0.mk (limits_valid rfl r2 false (by decide) (by decide))
    have V3 := Aside0.mk (limits_valid rfl r3 false (by decide) (by decide))
    have V4 := Aside0.mk (limits_valid rfl r4 false (by decide) (by decide))
    have V5 := Aside0.mk (limits_valid rfl r5 false (by decide) (by decide))
    clear cc r0 r1 r2 r3 r4 r5 g0 g1 g2 g3 g4 g5
    go_loopw [60] (fun i wr => ∃ k : Nat, k ≤ 6 ∧ i = .int .i64 k ∧ Aside0 (Below W0.heap.size W0 wr)) (fun i _ => 6 - (intOf i).toNat)
    case atStart => exact ⟨0, by omega, rfl, ⟨Below.refl _ _⟩⟩
    case round =>
      obtain ⟨k, hk, rfl, HR⟩ := hrel
      match k, hk with
      | 0, _ =>
        have g := (HR.out.cell (World.block_lt_of_cell? W0 _ G0.out)).trans G0.out
        go_wp2_with fail
        refine (D0.out _ HR.out).mono ?_
        rintro e w3 ⟨v, rfl, hb3⟩
        have HR3 := Aside0.mk (below_step HR.out hb3)
        clear hb3 HR g
        go_wp2_with fail
        refine (V0.out _ HR3.out).mono ?_
        rintro e w4 ⟨rfl, hb4⟩
        have HR4 := Aside0.mk (below_step HR3.out hb4)
        clear hb4 HR3
        go_wp2
        go_roundw
        case rel => exact ⟨1, by omega, by first | rfl | go_num, HR4⟩
        case measure => simp [intOf]
      | 1, _ =>
        have g := (HR.out.cell (World.block_lt_of_cell? W0 _ G1.out)).trans G1.out
        go_wp2_with fail
        refine (D1.out _ HR.out).mono ?_
        rintro e w3 ⟨v, rfl, hb3⟩
        have HR3 := Aside0.mk (below_step HR.out hb3)
        clear hb3 HR g
        go_wp2_with fail
        refine (V1.out _ HR3.out).mono ?_
        rintro e w4 ⟨rfl, hb4⟩
        have HR4 := Aside0.mk (below_step HR3.out hb4)
        clear hb4 HR3
        go_wp2
        go_roundw
        case rel => exact ⟨2, by omega, by first | rfl | go_num, HR4⟩
        case measure => simp [intOf]
      | 2, _ =>
        have g := (HR.out.cell (World.block_lt_of_cell? W0 _ G2.out)).trans G2.out
        go_wp2_with fail
        refine (D2.out _ HR.out).mono ?_
        rintro e w3 ⟨v, rfl, hb3⟩
        have HR3 := Aside0.mk (below_step HR.out hb3)
        clear hb3 HR g
        go_wp2_with fail
        refine (V2.out _ HR3.out).mono ?_
        rintro e w4 ⟨rfl, hb4⟩
        have HR4 := Aside0.mk (below_step HR3.out hb4)
        clear hb4 HR3
        go_wp2
        go_roundw
        case rel => exact ⟨3, by omega, by first | rfl | go_num, HR4⟩
        case measure => simp [intOf]
      | 3, _ =>
        have g := (HR.out.cell (World.block_lt_of_cell? W0 _ G3.out)).trans G3.out
        go_wp2_with fail
        refine (D3.out _ HR.out).mono ?_
        rintro e w3 ⟨v, rfl, hb3⟩
        have HR3 := Aside0.mk (below_step HR.out hb3)
        clear hb3 HR g
        go_wp2_with fail
        refine (V3.out _ HR3.out).mono ?_
        rintro e w4 ⟨rfl, hb4⟩
        have HR4 := Aside0.mk (below_step HR3.out hb4)
        clear hb4 HR3
        go_wp2
        go_roundw
        case rel => exact ⟨4, by omega, by first | rfl | go_num, HR4⟩
        case measure => simp [intOf]
      | 4, _ =>
        have g := (HR.out.cell (World.block_lt_of_cell? W0 _ G4.out)).trans G4.out
        go_wp2_with fail
        refine (D4.out _ HR.out).mono ?_
        rintro e w3 ⟨v, rfl, hb3⟩
        have HR3 := Aside0.mk (below_step HR.out hb3)
        clear hb3 HR g
        go_wp2_with fail
        refine (V4.out _ HR3.out).mono ?_
        rintro e w4 ⟨rfl, hb4⟩
        have HR4 := Aside0.mk (below_step HR3.out hb4)
        clear hb4 HR3
        go_wp2
        go_roundw
        case rel => exact ⟨5, by omega, by first | rfl | go_num, HR4⟩
        case measure => simp [intOf]
      | 5, _ =>
        have g := (HR.out.cell (World.block_lt_of_cell? W0 _ G5.out)).trans G5.out
        go_wp2_with fail
        refine (D5.out _ HR.out).mono ?_
        rintro e w3 ⟨v, rfl, hb3⟩
        have HR3 := Aside0.mk (below_step HR.out hb3)
        clear hb3 HR g
        go_wp2_with fail
        refine (V5.out _ HR3.out).mono ?_
        rintro e w4 ⟨rfl, hb4⟩
        have HR4 := Aside0.mk (below_step HR3.out hb4)
        clear hb4 HR3
        go_wp2
        go_roundw
        case rel => exact ⟨6, by omega, by first | rfl | go_num, HR4⟩
        case measure => simp [intOf]
      | 6, _ =>
        go_wp2_with fail
        have cv := lit_row wr [.int .i64 0, .int .i64 0, .string ⟨#[]⟩, .int .i64 0, .int .i64 6, .string ⟨#[]⟩, .int .i64 6, .int .i64 6, .string ⟨#[]⟩] [⟨0, 0, ⟨#[]⟩⟩, ⟨0, 6, ⟨#[]⟩⟩, ⟨6, 6, ⟨#[]⟩⟩] (Reps.c3 (k35_mkM _ _ _ (⟨0, 0, ⟨#[]⟩⟩ : S35)) (Reps.c3 (k35_mkM _ _ _ (⟨0, 6, ⟨#[]⟩⟩ : S35)) (Reps.c3 (k35_mkM _ _ _ (⟨6, 6, ⟨#[]⟩⟩ : S35)) (Reps.none _ _)))) (by decide)
        have hbv := below_step HR.out (below_alloc (Below.refl wr.heap.size wr) (.cells #[.int .i64 0, .int .i64 0, .string ⟨#[]⟩, .int .i64 0, .int .i64 6, .string ⟨#[]⟩, .int .i64 6, .int .i64 6, .string ⟨#[]⟩] 35))
        refine (limits_valid rfl cv true (by decide) (by decide) _ (Below.refl _ _)).mono ?_
        rintro e w3 ⟨rfl, hb3⟩
        have HR3 := Aside0.mk (below_step hbv hb3)
        clear hb3 hbv cv HR
        go_wp2_with fail
        refine (wakes03 _).mono ?_
        rintro e w4 ⟨rfl, hb4⟩
        have HR4 := Aside0.mk (below_step HW.out (below_step HR3.out hb4))
        clear hb4 HR3
        go_wp2
        go_ret
        exact ⟨rfl, HR4.out⟩
theorem SpliceLimits (n : Int) (w : World) (_ : (Lit.int .i64 n).wf = true) : Calls Try.prog 4 #[.int .i64 n] w fun e w' => e = .returned (.bool true) ∧ Below w.heap.size w w' := limits_walk n w
end Go.Proofs.Ytbaokhcadifdmaa.Pure

/- The law AuditKept, walked: the loop's steps are printed (wip/tools/vreg.py), the head and the tail are by hand. -/
import Derived.Test.YtbaokhcadifdmaaPAllF32
import Derived.Test.YtbaokhcadifdmaaPAllF16
import Derived.Test.YtbaokhcadifdmaaLibOutside
set_option linter.unusedVariables false
set_option linter.unusedSimpArgs false
namespace Go.Proofs.Ytbaokhcadifdmaa.Pure
open Go.RowKit Go.Proofs.Ytbaokhcadifdmaa.PAll Go.Proofs.YtbaokhcadifdmaaW.PrintWords Go.Proofs.YtbaokhcadifdmaaW.PrintLast Go.Proofs.YtbaokhcadifdmaaW.PrintMore Go.Proofs.YtbaokhcadifdmaaW.Plain
attribute [local go_sem] max2_int min2_int max_two min_two


def scholiumlaw25_AuditKept.l0 : Nat → List Int → List (S35) → List Int → Int → Int → Int → Option (List Int)
  | 0, _, _, _, _, _, _ => none
  | k + 1, x0, x1, x8, x9, x19, x20 => if x20 < x19 then (if 0 ≤ x20 then (if x20 < (x1.length : Int) then (if 0 ≤ x9 then (if x9 ≤ ((rd_T35 x1 x20).f0) then (if ((rd_T35 x1 x20).f0) ≤ (x0.length : Int) then (if x8.length + ((x0.take (((rd_T35 x1 x20).f0) : Int).toNat).drop (x9 : Int).toNat).length < 140737488355328 then ((some (x8 ++ ((x0.take (((rd_T35 x1 x20).f0) : Int).toNat).drop (x9 : Int).toNat) : List Int)).bind fun y157 => (if y157.length + ((rd_T35 x1 x20).f2).size < 140737488355328 then (scholiumlaw25_AuditKept.l0 k x0 x1 (y157 ++ bytesOf ((rd_T35 x1 x20).f2)) ((rd_T35 x1 x20).f1) x19 (wrap64 (x20 + 1))) else (none))) else (none)) else (none)) else (none)) else (none)) else (none)) else (none)) else (if 0 ≤ x9 then (if x9 ≤ (x0.length : Int) then (if x8.length + (x0.drop (x9 : Int).toNat).length < 140737488355328 then (some (x8 ++ (x0.drop (x9 : Int).toNat))) else (none)) else (none)) else (none))
def scholiumlaw25_AuditKept.T8 : Bool × List (List Nat × List Nat) := (true, [([], []), ([], []), ([], []), ([], []), ([], []), ([3, 4], [3, 4]), ([5], [5]), ([6], [6]), ([1, 2, 7], [1, 2, 7]), ([0, 8], [0, 8]), ([], []), ([], []), ([10, 11], [10, 11]), ([12], [12]), ([13], [13]), ([9, 14, 9], [9, 14]), ([15, 15, 0, 1, 2, 3, 4, 5, 6, 7, 8, 9, 10, 11, 12, 13, 14, 15], [0, 15])])
def scholiumlaw25_AuditKept.B8 : List Nat := [0, 0, 0, 0, 0, 24, 56, 120, 254, 511, 0, 0, 3072, 7168, 15360, 32767, 65535]
theorem scholiumlaw25_AuditKept.tab8 : rtab .any (opsOf Try.f10 8) = scholiumlaw25_AuditKept.T8 := by kernel_rfl
theorem scholiumlaw25_AuditKept.bits8 : waitsOk scholiumlaw25_AuditKept.T8.2 scholiumlaw25_AuditKept.B8 = true := by kernel_rfl
theorem range_snoc {l : List Int} (h : ∀ x ∈ l, 0 ≤ x ∧ x < 256) : ∀ x ∈ l ++ [120], 0 ≤ x ∧ x < 256 := by
  intro x hx
  rw [List.mem_append, List.mem_singleton] at hx
  rcases hx with hx | rfl
  · exact h x hx
  · omega
theorem range_set {l : List Int} (h : ∀ x ∈ l, 0 ≤ x ∧ x < 256) (i : Nat) {b : Int} (hb : 0 ≤ b ∧ b < 256) : ∀ x ∈ l.set i b, 0 ≤ x ∧ x < 256 := by
  intro x hx
  rcases List.mem_or_eq_of_mem_set hx with hx | rfl
  · exact h x hx
  · exact hb
theorem range_take {l : List Int} (h : ∀ x ∈ l, 0 ≤ x ∧ x < 256) (i : Nat) : ∀ x ∈ l.take i, 0 ≤ x ∧ x < 256 := fun x hx => h x (List.mem_of_mem_take hx)
theorem rd_mem {l : List Int} {i : Int} (h0 : 0 ≤ i) (h1 : i < l.length) : rdOf 0 l i = l[i.toNat]'(by omega) := by
  unfold rdOf
  rw [List.getD_eq_getElem?_getD, List.getElem?_eq_getElem (show i.toNat < l.length by omega)]
  rfl
theorem rd_range {l : List Int} (h : ∀ x ∈ l, 0 ≤ x ∧ x < 256) {i : Int} (h0 : 0 ≤ i) (h1 : i < l.length) : 0 ≤ rdOf 0 l i ∧ rdOf 0 l i < 256 := by
  rw [rd_mem h0 h1]
  exact h _ (List.getElem_mem _)
theorem xor_all : ∀ n : Fin 256, 0 ≤ bits BinOp.xor IntKind.u8 (n.val : Int) 1 ∧ bits BinOp.xor IntKind.u8 (n.val : Int) 1 < 256 ∧ (n.val : Int) ≠ bits BinOp.xor IntKind.u8 (n.val : Int) 1 := by decide +kernel
theorem xor_one (x : Int) (h : 0 ≤ x ∧ x < 256) : 0 ≤ bits BinOp.xor IntKind.u8 x 1 ∧ bits BinOp.xor IntKind.u8 x 1 < 256 ∧ x ≠ bits BinOp.xor IntKind.u8 x 1 := by
  have := xor_all ⟨x.toNat, by omega⟩
  rwa [show ((⟨x.toNat, by omega⟩ : Fin 256).val : Int) = x from Int.toNat_of_nonneg h.1] at this
theorem set_ne (l : List Int) (i b : Int) (h0 : 0 ≤ i) (h1 : i < l.length) (hb : rdOf 0 l i ≠ b) : l ≠ l.set i.toNat b := by
  intro e
  apply hb
  rw [rd_mem h0 h1]
  have h2 : l[i.toNat]? = (l.set i.toNat b)[i.toNat]? := congrArg (·[i.toNat]?) e
  rw [List.getElem?_set_self (by omega), List.getElem?_eq_getElem (by omega)] at h2
  exact Option.some.inj h2
theorem kept_snoc {l0 : List Int} {l1 : List S35} {r : List Int} (h : ∀ c : List Int, (∀ x ∈ c, 0 ≤ x ∧ x < 256) → audit_Kept.f 100 l0 c l1 = some (decide (r = c))) (hr : ∀ x ∈ r, 0 ≤ x ∧ x < 256) : audit_Kept.f 100 l0 (r ++ [120]) l1 = some false := by
  rw [h _ (range_snoc hr), decide_eq_false (fun e => by have := congrArg List.length e; simp at this)]
set_option maxHeartbeats 8000000 in
set_option maxRecDepth 100000 in
theorem kept_walk (k : Nat) (A00 : Option Addr) (c00 : Nat) (L0 : List Int) (A01 : Option Addr) (c01 : Nat) (L1 : List S35) (a2 : Int) (W : World) (hr0 : Kd.C (Kd.int .u8) W A00 L0.length L0) (hc0 : L0.length ≤ c00) (hr1 : Kd.C k35 W A01 L1.length L1) (hc1 : L1.length ≤ c01)
    (l0 : List Int) (hl0 : scholiumkeep_Cut_byte.f L0 60 = some l0) (l1 : List S35) (ks : Nat) (hl1 : scholiumlaw25_splices.f ks L1 (l0.length : Int) = some l1) (r : List Int) (h : scholiumlaw25_AuditKept.l0 k l0 l1 [] 0 (l1.length : Int) 0 = some r)
    (hkept : ∀ c : List Int, (∀ x ∈ c, 0 ≤ x ∧ x < 256) → audit_Kept.f 100 l0 c l1 = some (decide (r = c))) (hrr : ∀ x ∈ r, 0 ≤ x ∧ x < 256) (hrl : r.length ≤ 100000) :
    Calls Try.prog 10 #[.slice A00 L0.length c00, .slice A01 L1.length c01, .int .i64 a2] W fun e w' => e = .returned (.bool true) ∧ Below W.heap.size W w' := by
  go_enter Try.func10, Try.ntmps10
  go_wp2_with fail
  refine (scholiumkeep_Cut_byte.calls A00 c00 L0 60 l0 _ hr0 hc0 hl0).mono ?_
  rintro e w1 ⟨v0, rfl, hR0, hb1⟩
  obtain ⟨A0, c0, rfl⟩ := Kd.R_slice hR0
  go_wp2_with fail
  refine (scholiumlaw25_splices.calls ks A01 c01 L1 _ l1 _ (Kd.C_below hr1 hb1) hc1 hl1).mono ?_
  rintro e w ⟨v1, rfl, hR1, hb2⟩
  obtain ⟨A1, c1, rfl⟩ := Kd.R_slice hR1
  have HR0 := Aside0.mk (Kd.C_below (Kd.R_reads' hR0).2.2 hb2)
  have HC0 := Aside0.mk (Kd.R_reads' hR0).2.1
  have HR1 := Aside0.mk (Kd.R_reads' hR1).2.2
  have HC1 := Aside0.mk (Kd.R_reads' hR1).2.1
  have HW := Aside0.mk (below_step hb1 hb2)
  have HKEPT := Aside0.mk hkept
  have HRR := Aside0.mk hrr
  have HRL := Aside0.mk hrl
  have H' := Aside0.mk h
  clear hb1 hb2 hR0 hR1 hr0 hr1 hc0 hc1 hl0 hl1 hkept hrr hrl h
  have HB := Aside0.mk (Below.refl w.heap.size w)
  go_wp2
  go_loopg [8, 9, 20] k (fun kq v8 v9 v20 w' => ∃ (x8_1 : List Int) (x9_1 : Int) (x20_1 : Int), v9 = .int .i64 x9_1 ∧ v20 = .int .i64 x20_1 ∧ Aside0 (scholiumlaw25_AuditKept.l0 kq l0 l1 x8_1 x9_1 (l1.length : Int) x20_1 = some r) ∧ Aside0 (kq ≤ k) ∧ Aside0 (Kd.R (Kd.int .u8) 5 w' w.heap.size (fun _ => True) v8 x8_1) ∧ Aside0 (Below w.heap.size w w'))
  case atStart => exact ⟨(([] : List Int)), (0), (0), (by first | rfl | (simp; done) | (simp [*]; done)), (by first | rfl | (simp; done) | (simp [*]; done)), H', ⟨Nat.le_refl _⟩, ⟨by first | exact Kd.R_nil _ _ _ _ _ | exact Kd.N_nil _ _ _ _ _ | exact Kd.V_nil _ _ _ _ _ | exact Kd.Q_nil _ _ _ _ _ | exact Kd.S_nil _ _ _ _ _⟩, ⟨by repeat (first | (with_reducible first | exact HB.out | apply below_alloc | apply pw_below_drewN | apply below_drew1) | exact HB.out)⟩⟩
  case round =>
    clear H'
    try clear c1
    try clear p2
    obtain ⟨x8_1, x9_1, x20_1, rfl, rfl, HA, HK1, HO_8, HB⟩ := hrel
    cases gk with
    | zero => exact absurd HA.out (by simp [scholiumlaw25_AuditKept.l0])
    | succ k1 =>
      have H := HA.out
      clear HA
      simp only [scholiumlaw25_AuditKept.l0] at H
      by_cases c4 : x20_1 < (l1.length : Int)
      · rw [if_pos c4] at H
        have c4b0 : decide (x20_1 < (l1.length : Int)) = true := decide_eq_true c4
        clear c4
        by_cases c5 : 0 ≤ x20_1
        · rw [if_pos c5] at H
          have c5b0 : decide (0 ≤ x20_1) = true := decide_eq_true c5
          clear c5
          by_cases c6 : x20_1 < (l1.length : Int)
          · rw [if_pos c6] at H
            have c6b0 : decide (x20_1 < (l1.length : Int)) = true := decide_eq_true c6
            clear c6
            by_cases c7 : 0 ≤ x9_1
            · rw [if_pos c7] at H
              have c7b0 := eq_true c7
              have c7b1 : decide (0 ≤ x9_1) = true := decide_eq_true c7
              clear c7
              by_cases c8 : x9_1 ≤ ((rd_T35 l1 x20_1).f0)
              · rw [if_pos c8] at H
                have c8b0 := eq_true c8
                have c8b1 : decide (x9_1 ≤ ((rd_T35 l1 x20_1).f0)) = true := decide_eq_true c8
                clear c8
                by_cases c9 : ((rd_T35 l1 x20_1).f0) ≤ (l0.length : Int)
                · rw [if_pos c9] at H
                  have c9b0 := eq_true c9
                  have c9b1 : decide (((rd_T35 l1 x20_1).f0) ≤ (l0.length : Int)) = true := decide_eq_true c9
                  clear c9
                  by_cases c10 : x8_1.length + ((l0.take (((rd_T35 l1 x20_1).f0) : Int).toNat).drop (x9_1 : Int).toNat).length < 140737488355328
                  · rw [if_pos c10] at H
                    have LMc10 := Aside0.mk c10
                    clear c10
                    obtain ⟨y157, hy157⟩ : ∃ y_ : List Int, y_ = (x8_1 ++ ((l0.take (((rd_T35 l1 x20_1).f0) : Int).toNat).drop (x9_1 : Int).toNat)) := ⟨_, rfl⟩
                    replace H : (if y157.length + ((rd_T35 l1 x20_1).f2).size < 140737488355328 then (scholiumlaw25_AuditKept.l0 k1 l0 l1 (y157 ++ bytesOf ((rd_T35 l1 x20_1).f2)) ((rd_T35 l1 x20_1).f1) (l1.length : Int) (wrap64 (x20_1 + 1))) else (none)) = some r := by first | (rw [hy157]; with_reducible exact H) | (have H2_ := (Option.bind_some _ _).symm.trans H; rw [hy157]; with_reducible exact H2_) | (have H2_ := (Option.bind_some _ _).symm.trans H; with_reducible exact H2_) | with_reducible exact H | (rw [hy157]; exact H) | exact H
                    have Ny157 := Aside0.mk hy157
                    clear hy157
                    by_cases c11 : y157.length + ((rd_T35 l1 x20_1).f2).size < 140737488355328
                    · rw [if_pos c11] at H
                      have LMc11 := Aside0.mk c11
                      clear c11
                      obtain ⟨y161, hy161⟩ : ∃ y_ : List Int, y_ = (y157 ++ bytesOf ((rd_T35 l1 x20_1).f2)) := ⟨_, rfl⟩
                      replace H : (scholiumlaw25_AuditKept.l0 k1 l0 l1 y161 ((rd_T35 l1 x20_1).f1) (l1.length : Int) (wrap64 (x20_1 + 1))) = some r := by first | (rw [hy161]; with_reducible exact H) | (have H2_ := (Option.bind_some _ _).symm.trans H; rw [hy161]; with_reducible exact H2_) | (have H2_ := (Option.bind_some _ _).symm.trans H; with_reducible exact H2_) | with_reducible exact H | (rw [hy161]; exact H) | exact H
                      have Ny161 := Aside0.mk hy161
                      clear hy161
                      have H' := Aside0.mk H
                      clear H
                      try go_wp2
                      have n0_ := Aside0.mk (Kd.R_drew HO_8.out)
                      have n1_ := Aside0.mk (below_drew1 HB.out)
                      clear HO_8
                      clear HB
                      have HO_8 := n0_
                      have HB := n1_
                      clear n0_ n1_
                      have p155 : 0 ≤ (x20_1 : Int) := of_decide_eq_true (by first | (with_reducible assumption) | assumption)
                      have q155 : x20_1 < (l1.length : Int) := of_decide_eq_true (by first | (with_reducible assumption) | assumption)
                      obtain ⟨ad155, e155, hx155_0, hx155_1, hx155_2⟩ := at_T35 HR1.out x20_1 p155 q155
                      have hw155_2 := hx155_2
                      have hw155_1 := hx155_1
                      have hw155_0 := hx155_0
                      cases e155
                      replace hx155_0 := (HB.out.cell (World.block_lt_of_cell? w _ hx155_0)).trans hx155_0
                      replace hx155_1 := (HB.out.cell (World.block_lt_of_cell? w _ hx155_1)).trans hx155_1
                      replace hx155_2 := (HB.out.cell (World.block_lt_of_cell? w _ hx155_2)).trans hx155_2
                      replace p155 := eq_true p155
                      replace q155 := eq_true q155
                      obtain ⟨i013, hi013, _, hsz13, _⟩ := info_parts info5
                      obtain ⟨A13, hcut13, hA13, hC13⟩ := print_mid_of (P := Try.prog) (Value.int .u8) 0 22 5 .i64 .i64 Try.underlying22 hi013 hsz13 A0 c0 l0 x9_1 ((rd_T35 l1 x20_1).f0) (of_decide_eq_true (by first | (with_reducible assumption) | assumption)) (by first | omega | exact of_decide_eq_true (by first | (with_reducible assumption) | assumption)) (of_decide_eq_true (by first | (with_reducible assumption) | assumption)) HC0.out
                      have HR156 := Aside0.mk (Kd.C_of_reads (h1 := fun _ => rfl) (hA13 _ (Kd.reads_of_C HR0.out)))
                      have HC156 := Aside0.mk hC13
                      clear hA13 hC13 hi013 hsz13
                      have p160 : 0 ≤ (x20_1 : Int) := of_decide_eq_true (by first | (with_reducible assumption) | assumption)
                      have q160 : x20_1 < (l1.length : Int) := of_decide_eq_true (by first | (with_reducible assumption) | assumption)
                      obtain ⟨ad160, e160, hx160_0, hx160_1, hx160_2⟩ := at_T35 HR1.out x20_1 p160 q160
                      have hw160_2 := hx160_2
                      have hw160_1 := hx160_1
                      have hw160_0 := hx160_0
                      obtain rfl : ad155 = ad160 := (by injection e160)
                      replace hx160_0 := (HB.out.cell (World.block_lt_of_cell? w _ hx160_0)).trans hx160_0
                      replace hx160_1 := (HB.out.cell (World.block_lt_of_cell? w _ hx160_1)).trans hx160_1
                      replace hx160_2 := (HB.out.cell (World.block_lt_of_cell? w _ hx160_2)).trans hx160_2
                      replace p160 := eq_true p160
                      replace q160 := eq_true q160
                      refine start_ (n := 17) (S := fun w' => w'.cell? (ad155.add ((x20_1).toNat * 3)) = some (.int .i64 ((rd_T35 l1 x20_1).f0)) ∧ w'.cell? ⟨(ad155.add ((x20_1).toNat * 3)).block, (ad155.add ((x20_1).toNat * 3)).off + 1, none⟩ = some (.int .i64 ((rd_T35 l1 x20_1).f1)) ∧ w'.cell? ⟨(ad155.add ((x20_1).toNat * 3)).block, (ad155.add ((x20_1).toNat * 3)).off + 2, none⟩ = some (.string ((rd_T35 l1 x20_1).f2)) ∧ w'.cell? (ad155.add ((x20_1).toNat * 3)) = some (.int .i64 ((rd_T35 l1 x20_1).f0)) ∧ w'.cell? ⟨(ad155.add ((x20_1).toNat * 3)).block, (ad155.add ((x20_1).toNat * 3)).off + 1, none⟩ = some (.int .i64 ((rd_T35 l1 x20_1).f1)) ∧ w'.cell? ⟨(ad155.add ((x20_1).toNat * 3)).block, (ad155.add ((x20_1).toNat * 3)).off + 2, none⟩ = some (.string ((rd_T35 l1 x20_1).f2))) (ds := []) #[false, false, false, false, false, false, false, false, false, false, false, false, false, false, false, false, false] (by kernel_rfl) rfl rfl ⟨((HB.out.cell (World.block_lt_of_cell? w _ hw155_0)).trans hw155_0), ((HB.out.cell (World.block_lt_of_cell? w _ hw155_1)).trans hw155_1), ((HB.out.cell (World.block_lt_of_cell? w _ hw155_2)).trans hw155_2), ((HB.out.cell (World.block_lt_of_cell? w _ hw160_0)).trans hw160_0), ((HB.out.cell (World.block_lt_of_cell? w _ hw160_1)).trans hw160_1), ((HB.out.cell (World.block_lt_of_cell? w _ hw160_2)).trans hw160_2)⟩ (fun hHeld => ?_); refine with_tabW scholiumlaw25_AuditKept.tab8 scholiumlaw25_AuditKept.bits8 (fun HT_ HW_ => ?_)
                      generalize wr.drew = w12 at HO_8 HB HR156 hx155_0 hx155_1 hx155_2 hx160_0 hx160_1 hx160_2 hHeld ⊢
                      refine pure_ (i := 0) (N := some 23) (v := ?_) (a' := ?_) #[true, false, false, false, false, false, false, false, false, false, false, false, false, false, false, false, false] rfl rfl (any_of HT_.out (by kernel_rfl)) (fun _ _ _ h => h) (Or.inl ⟨by rfl, ?_⟩) ?_ ?_
                      rotate_left
                      · intro w'
                        go_simp
                        with_reducible rfl
                      rotate_left
                      · simp only [Act.put, List.setIfInBounds_toArray, List.set_cons_zero, List.set_cons_succ, i64_w, i32_w]
                        rfl
                      refine pure_ (i := 1) (N := some 24) (v := ?_) (a' := ?_) #[true, true, false, false, false, false, false, false, false, false, false, false, false, false, false, false, false] rfl rfl (any_of HT_.out (by kernel_rfl)) (fun _ _ _ h => h) (Or.inl ⟨by rfl, ?_⟩) ?_ ?_
                      rotate_left
                      · intro w'
                        go_simp
                        with_reducible rfl
                      rotate_left
                      · simp only [Act.put, List.setIfInBounds_toArray, List.set_cons_zero, List.set_cons_succ, i64_w, i32_w]
                        rfl
                      refine pure_ (i := 2) (N := some 25) (v := ?_) (a' := ?_) #[true, true, true, false, false, false, false, false, false, false, false, false, false, false, false, false, false] rfl rfl (any_of HT_.out (by kernel_rfl)) (fun _ _ _ h => h) (Or.inl ⟨by rfl, ?_⟩) ?_ ?_
                      rotate_left
                      · intro w'
                        go_simp
                        with_reducible rfl
                      rotate_left
                      · simp only [Act.put, List.setIfInBounds_toArray, List.set_cons_zero, List.set_cons_succ, i64_w, i32_w]
                        rfl
                      refine pure_ (i := 3) (N := some 26) (v := ?_) (a' := ?_) #[true, true, true, true, false, false, false, false, false, false, false, false, false, false, false, false, false] rfl rfl (any_of HT_.out (by kernel_rfl)) (fun _ _ _ h => h) (Or.inl ⟨by rfl, ?_⟩) ?_ ?_
                      rotate_left
                      · intro w'
                        go_simp
                        with_reducible rfl
                      rotate_left
                      · simp only [Act.put, List.setIfInBounds_toArray, List.set_cons_zero, List.set_cons_succ, i64_w, i32_w]
                        rfl
                      refine pure_ (i := 4) (N := some 27) (v := ?_) (a' := ?_) #[true, true, true, true, true, false, false, false, false, false, false, false, false, false, false, false, false] rfl rfl (any_of HT_.out (by kernel_rfl)) (fun _ _ _ h => h) (Or.inl ⟨by rfl, ?_⟩) ?_ ?_
                      rotate_left
                      · intro w'
                        go_simp
                        with_reducible rfl
                      rotate_left
                      · simp only [Act.put, List.setIfInBounds_toArray, List.set_cons_zero, List.set_cons_succ, i64_w, i32_w]
                        rfl
                      refine pure_ (i := 5) (N := some 28) (v := ?_) (a' := ?_) #[true, true, true, true, true, true, false, false, false, false, false, false, false, false, false, false, false] rfl rfl (any_of HT_.out (by kernel_rfl)) (fun _ _ _ h => h) (Or.inl ⟨by rfl, ?_⟩) ?_ ?_
                      rotate_left
                      · intro w'
                        go_simp
                        with_reducible rfl
                      rotate_left
                      · simp only [Act.put, List.setIfInBounds_toArray, List.set_cons_zero, List.set_cons_succ, i64_w, i32_w]
                        rfl
                      refine pure_ (i := 6) (N := some 29) (v := ?_) (a' := ?_) #[true, true, true, true, true, true, true, false, false, false, false, false, false, false, false, false, false] rfl rfl (any_of HT_.out (by kernel_rfl)) (fun _ _ _ h => h) (Or.inl ⟨by rfl, ?_⟩) ?_ ?_
                      rotate_left
                      · intro w'
                        go_simp
                        with_reducible rfl
                      rotate_left
                      · simp only [Act.put, List.setIfInBounds_toArray, List.set_cons_zero, List.set_cons_succ, i64_w, i32_w]
                        rfl
                      refine pure_ (i := 10) (N := some 33) (v := ?_) (a' := ?_) #[true, true, true, true, true, true, true, false, false, false, true, false, false, false, false, false, false] rfl rfl (any_of HT_.out (by kernel_rfl)) (fun _ _ _ h => h) (Or.inl ⟨by rfl, ?_⟩) ?_ ?_
                      rotate_left
                      · intro w'
                        go_simp
                        with_reducible rfl
                      rotate_left
                      · simp only [Act.put, List.setIfInBounds_toArray, List.set_cons_zero, List.set_cons_succ, i64_w, i32_w]
                        rfl
                      refine pure_ (i := 11) (N := some 34) (v := ?_) (a' := ?_) #[true, true, true, true, true, true, true, false, false, false, true, true, false, false, false, false, false] rfl rfl (any_of HT_.out (by kernel_rfl)) (fun _ _ _ h => h) (Or.inl ⟨by rfl, ?_⟩) ?_ ?_
                      rotate_left
                      · intro w'
                        go_simp
                        with_reducible rfl
                      rotate_left
                      · simp only [Act.put, List.setIfInBounds_toArray, List.set_cons_zero, List.set_cons_succ, i64_w, i32_w]
                        rfl
                      refine pure_ (i := 12) (N := some 35) (v := ?_) (a' := ?_) #[true, true, true, true, true, true, true, false, false, false, true, true, true, false, false, false, false] rfl rfl (any_of HT_.out (by kernel_rfl)) (fun _ _ _ h => h) (Or.inl ⟨by rfl, ?_⟩) ?_ ?_
                      rotate_left
                      · intro w'
                        go_simp
                        with_reducible rfl
                      rotate_left
                      · simp only [Act.put, List.setIfInBounds_toArray, List.set_cons_zero, List.set_cons_succ, i64_w, i32_w]
                        rfl
                      refine pure_ (i := 13) (N := some 36) (v := ?_) (a' := ?_) #[true, true, true, true, true, true, true, false, false, false, true, true, true, true, false, false, false] rfl rfl (any_of HT_.out (by kernel_rfl)) (fun _ _ _ h => h) (Or.inl ⟨by rfl, ?_⟩) ?_ ?_
                      rotate_left
                      · intro w'
                        go_simp
                        with_reducible rfl
                      rotate_left
                      · simp only [Act.put, List.setIfInBounds_toArray, List.set_cons_zero, List.set_cons_succ, i64_w, i32_w]
                        rfl
                      refine take_ (i := 7) (N := some 30) (v := ?_) (a' := ?_) #[true, true, true, true, true, true, true, true, false, false, true, true, true, true, false, false, false] rfl rfl (take_ofW HT_.out HW_.out (by kernel_rfl)) (fun _ _ _ h => h) (Or.inl ⟨by rfl, ?_⟩) hHeld ?_ ?_
                      rotate_left
                      · rintro w' ⟨s0, s1, s2, s3, s4, s5⟩
                        go_simp
                        with_reducible rfl
                      rotate_left
                      · simp only [Act.put, List.setIfInBounds_toArray, List.set_cons_zero, List.set_cons_succ, i64_w, i32_w]
                        rfl
                      refine pure_ (i := 8) (N := some 31) (v := ?_) (a' := ?_) #[true, true, true, true, true, true, true, true, true, false, true, true, true, true, false, false, false] rfl rfl (any_of HT_.out (by kernel_rfl)) (fun _ _ _ h => h) (Or.inl ⟨by rfl, ?_⟩) ?_ ?_
                      rotate_left
                      · intro w'
                        go_simp
                        with_reducible rfl
                      rotate_left
                      · simp only [Act.put, List.setIfInBounds_toArray, List.set_cons_zero, List.set_cons_succ, i64_w, i32_w]
                        rfl
                      refine take_ (i := 14) (N := some 37) (v := ?_) (a' := ?_) #[true, true, true, true, true, true, true, true, true, false, true, true, true, true, true, false, false] rfl rfl (take_ofW HT_.out HW_.out (by kernel_rfl)) (fun _ _ _ h => h) (Or.inl ⟨by rfl, ?_⟩) hHeld ?_ ?_
                      rotate_left
                      · rintro w' ⟨s0, s1, s2, s3, s4, s5⟩
                        go_simp
                        with_reducible rfl
                      rotate_left
                      · simp only [Act.put, List.setIfInBounds_toArray, List.set_cons_zero, List.set_cons_succ, i64_w, i32_w]
                        rfl
                      refine one_ (i := 9) (N := some 32) #[true, true, true, true, true, true, true, true, true, true, true, true, true, true, true, false, false] rfl rfl (one_of HT_.out (by kernel_rfl)) (by decide) (fun K hK => ?_)
                      refine Kd.R_append_rows_step (Kd.int .u8) (w0 := w) w.heap.size (by rfl) (.tmp 23) (.tmp 31) 22 5 (.int .u8 0) 1 rfl Try.underlying22 info5 rfl (by decide) (by omega) u8 x8_1 ((l0.take (((rd_T35 l1 x20_1).f0) : Int).toNat).drop (x9_1 : Int).toNat) _ _ _ (fun _ => True) (fun _ => False) rfl rfl ?aO ?aR (fun _ _ h => h) (fun _ h => h.elim) ?aF ?aB ?aS ?aL ?_
                      (case aR => first | (rw [← show ((l0.take (((rd_T35 l1 x20_1).f0) : Int).toNat).drop (x9_1 : Int).toNat).length = (((rd_T35 l1 x20_1).f0).toNat - x9_1.toNat) from (by rw [List.length_drop, List.length_take]; have h_ : (((rd_T35 l1 x20_1).f0) : Int) ≤ (l0.length : Int) := of_decide_eq_true (by first | (with_reducible assumption) | assumption); omega)]; repeat (first | exact (Kd.C_below HR156.out HB.out) | (with_reducible refine Kd.C_alloc ?_ _) | (with_reducible refine Kd.C_drewN ?_ _) | (with_reducible refine Kd.C_drew ?_))) | (repeat (first | exact (Kd.C_below HR156.out HB.out) | (with_reducible refine Kd.C_alloc ?_ _) | (with_reducible refine Kd.C_drewN ?_ _) | (with_reducible refine Kd.C_drew ?_))))
                      (case aB => exact (by repeat (first | (with_reducible first | exact HB.out | apply below_alloc | apply pw_below_drewN | apply below_drew1) | exact HB.out)))
                      (case aF => exact (fun _ _ => trivial))
                      (case aO => exact (by (with_reducible repeat (first | apply Kd.R_alloc | apply Kd.R_drewN | apply Kd.R_drew)); exact HO_8.out))
                      (case aS => exact (below_size (by repeat (first | (with_reducible first | exact HB.out | apply below_alloc | apply pw_below_drewN | apply below_drew1) | exact HB.out))))
                      (case aL => have := LMc10.out; have hlx_ := (show ((l0.take (((rd_T35 l1 x20_1).f0) : Int).toNat).drop (x9_1 : Int).toNat).length = (((rd_T35 l1 x20_1).f0).toNat - x9_1.toNat) from (by rw [List.length_drop, List.length_take]; have h_ : (((rd_T35 l1 x20_1).f0) : Int) ≤ (l0.length : Int) := of_decide_eq_true (by first | (with_reducible assumption) | assumption); omega)); omega)
                      intro v158 w14 ho hb hg hat
                      rw [← Ny157.out] at ho
                      have n0_ := Aside0.mk (hb)
                      have n1_ := Aside0.mk (ho)
                      clear HB
                      clear HO_8
                      have HB := n0_
                      have HO159 := n1_
                      clear n0_ n1_
                      clear ho hb hg hat
                      refine hK.out _ _ ⟨((HB.out.cell (World.block_lt_of_cell? w _ hw155_0)).trans hw155_0), ((HB.out.cell (World.block_lt_of_cell? w _ hw155_1)).trans hw155_1), ((HB.out.cell (World.block_lt_of_cell? w _ hw155_2)).trans hw155_2), ((HB.out.cell (World.block_lt_of_cell? w _ hw160_0)).trans hw160_0), ((HB.out.cell (World.block_lt_of_cell? w _ hw160_1)).trans hw160_1), ((HB.out.cell (World.block_lt_of_cell? w _ hw160_2)).trans hw160_2)⟩ (fun hHeld => ?_)
                      clear hK K
                      refine norm_ (a' := ?_) ?_ ?_
                      rotate_left
                      · show Act.put _ (some 32) _ = _
                        simp only [Act.put, List.setIfInBounds_toArray, List.set_cons_zero, List.set_cons_succ, i64_w, i32_w]
                        rfl
                      refine one_ (i := 15) (N := some 38) #[true, true, true, true, true, true, true, true, true, true, true, true, true, true, true, true, false] rfl rfl (one_of HT_.out (by kernel_rfl)) (by decide) (fun K hK => ?_)
                      refine Kd.R_append_str_step (w0 := w) w.heap.size (by rfl) (.tmp 32) _ 22 9 5 rfl Try.underlying22 Try.underlying9 info5 v158 y157 ((rd_T35 l1 x20_1).f2) (fun _ => True) rfl rfl ?aO ?aF ?aB ?aS ?aL ?_
                      (case aB => exact (by repeat (first | (with_reducible first | exact HB.out | apply below_alloc | apply pw_below_drewN | apply below_drew1) | exact HB.out)))
                      (case aF => exact (fun _ _ => trivial))
                      (case aO => exact (by (with_reducible repeat (first | apply Kd.R_alloc | apply Kd.R_drewN | apply Kd.R_drew)); exact HO159.out))
                      (case aS => exact (below_size (by repeat (first | (with_reducible first | exact HB.out | apply below_alloc | apply pw_below_drewN | apply below_drew1) | exact HB.out))))
                      (case aL => have := LMc11.out; omega)
                      intro v162 w15 ho hb hg hat
                      rw [← Ny161.out] at ho
                      have n0_ := Aside0.mk (hb)
                      have n1_ := Aside0.mk (ho)
                      clear HB
                      clear HO159
                      have HB := n0_
                      have HO163 := n1_
                      clear n0_ n1_
                      clear ho hb hg hat
                      refine hK.out _ _ ⟨((HB.out.cell (World.block_lt_of_cell? w _ hw155_0)).trans hw155_0), ((HB.out.cell (World.block_lt_of_cell? w _ hw155_1)).trans hw155_1), ((HB.out.cell (World.block_lt_of_cell? w _ hw155_2)).trans hw155_2), ((HB.out.cell (World.block_lt_of_cell? w _ hw160_0)).trans hw160_0), ((HB.out.cell (World.block_lt_of_cell? w _ hw160_1)).trans hw160_1), ((HB.out.cell (World.block_lt_of_cell? w _ hw160_2)).trans hw160_2)⟩ (fun hHeld => ?_)
                      clear hK K
                      refine norm_ (a' := ?_) ?_ ?_
                      rotate_left
                      · show Act.put _ (some 38) _ = _
                        simp only [Act.put, List.setIfInBounds_toArray, List.set_cons_zero, List.set_cons_succ, i64_w, i32_w]
                        rfl
                      refine pure_ (i := 16) (N := some 8) (v := ?_) (a' := ?_) #[true, true, true, true, true, true, true, true, true, true, true, true, true, true, true, true, true] rfl rfl (any_of HT_.out (by kernel_rfl)) (fun _ _ _ h => h) (Or.inl ⟨by rfl, ?_⟩) ?_ ?_
                      rotate_left
                      · intro w'
                        go_simp
                        with_reducible rfl
                      rotate_left
                      · simp only [Act.put, List.setIfInBounds_toArray, List.set_cons_zero, List.set_cons_succ, i64_w, i32_w]
                        rfl
                      refine done_ (done_of HT_.out (by kernel_rfl)) ?_
                      have p164 : 0 ≤ (x20_1 : Int) := of_decide_eq_true (by first | (with_reducible assumption) | assumption)
                      have q164 : x20_1 < (l1.length : Int) := of_decide_eq_true (by first | (with_reducible assumption) | assumption)
                      obtain ⟨ad164, e164, hx164_0, hx164_1, hx164_2⟩ := at_T35 HR1.out x20_1 p164 q164
                      obtain rfl : ad155 = ad164 := (by injection e164)
                      replace hx164_0 := (HB.out.cell (World.block_lt_of_cell? w _ hx164_0)).trans hx164_0
                      replace hx164_1 := (HB.out.cell (World.block_lt_of_cell? w _ hx164_1)).trans hx164_1
                      replace hx164_2 := (HB.out.cell (World.block_lt_of_cell? w _ hx164_2)).trans hx164_2
                      replace p164 := eq_true p164
                      replace q164 := eq_true q164
                      try go_wp2
                      go_roundg k1
                      case measure => have := HK1.out; omega
                      case rel => exact ⟨(y161), ((rd_T35 l1 x20_1).f1), (wrap64 (x20_1 + 1)), (by first | rfl | (simp; done) | (simp [*]; done)), (by first | rfl | (simp; done) | (simp [*]; done)), H', ⟨by have := HK1.out; omega⟩, ⟨by (with_reducible repeat (first | apply Kd.R_alloc | apply Kd.R_drewN | apply Kd.R_drew)); exact HO163.out⟩, ⟨by repeat (first | (with_reducible first | exact HB.out | apply below_alloc | apply pw_below_drewN | apply below_drew1) | exact HB.out)⟩⟩
                    · rw [if_neg c11] at H
                      exact absurd H (by simp)
                  · rw [if_neg c10] at H
                    exact absurd H (by simp)
                · rw [if_neg c9] at H
                  exact absurd H (by simp)
              · rw [if_neg c8] at H
                exact absurd H (by simp)
            · rw [if_neg c7] at H
              exact absurd H (by simp)
          · rw [if_neg c6] at H
            exact absurd H (by simp)
        · rw [if_neg c5] at H
          exact absurd H (by simp)
      · rw [if_neg c4] at H
        have c4b0 : decide (x20_1 < (l1.length : Int)) = false := decide_eq_false c4
        clear c4
        by_cases c16 : 0 ≤ x9_1
        · rw [if_pos c16] at H
          have c16b0 := eq_true c16
          have c16b1 : decide (0 ≤ x9_1) = true := decide_eq_true c16
          clear c16
          by_cases c17 : x9_1 ≤ (l0.length : Int)
          · rw [if_pos c17] at H
            have c17b0 := eq_true c17
            have c17b1 : decide (x9_1 ≤ (l0.length : Int)) = true := decide_eq_true c17
            clear c17
            by_cases c18 : x8_1.length + (l0.drop (x9_1 : Int).toNat).length < 140737488355328
            · rw [if_pos c18] at H
              have LMc18 := Aside0.mk c18
              clear c18
              obtain ⟨y166, hy166⟩ : ∃ y_ : List Int, y_ = (x8_1 ++ (l0.drop (x9_1 : Int).toNat)) := ⟨_, rfl⟩
              replace H : (some y166) = some r := by first | (rw [hy166]; with_reducible exact H) | (have H2_ := (Option.bind_some _ _).symm.trans H; rw [hy166]; with_reducible exact H2_) | (have H2_ := (Option.bind_some _ _).symm.trans H; with_reducible exact H2_) | with_reducible exact H | (rw [hy166]; exact H) | exact H
              have Ny166 := Aside0.mk hy166
              clear hy166
              obtain rfl := Option.some.inj H
              obtain ⟨i019, hi019, _, hsz19, _⟩ := info_parts info5
              obtain ⟨A19, hcut19, hA19, hC19⟩ := print_drop_of (P := Try.prog) (Value.int .u8) 0 22 5 .i64 Try.underlying22 hi019 hsz19 A0 c0 l0 x9_1 (of_decide_eq_true (by first | (with_reducible assumption) | assumption)) (of_decide_eq_true (by first | (with_reducible assumption) | assumption)) HC0.out
              have HR165 := Aside0.mk (Kd.C_of_reads (h1 := fun _ => rfl) (hA19 _ (Kd.reads_of_C HR0.out)))
              have HC165 := Aside0.mk hC19
              clear hA19 hC19 hi019 hsz19
              go_wp2_with (first | ((with_reducible refine gate_builtin (b := .append) (xs := #[.tmp 45, .tmp 48]) rfl ?_); at_builtin; refine Kd.R_append_rows (Kd.int .u8) (w0 := w) w.heap.size rfl (.tmp 45) (.tmp 48) 22 5 (.int .u8 0) 1 rfl Try.underlying22 info5 rfl (by decide) (by omega) u8 x8_1 (l0.drop (x9_1 : Int).toNat) _ _ _ (fun _ => True) (fun _ => False) rfl rfl ?aO ?aR (fun _ _ h => h) (fun _ h => h.elim) ?aF ?aB ?aS ?aL ?_; (case aR => first | (rw [← show (l0.drop (x9_1 : Int).toNat).length = (l0.length - x9_1.toNat) from List.length_drop]; repeat (first | exact (Kd.C_below HR165.out HB.out) | (with_reducible refine Kd.C_alloc ?_ _) | (with_reducible refine Kd.C_drewN ?_ _) | (with_reducible refine Kd.C_drew ?_))) | (repeat (first | exact (Kd.C_below HR165.out HB.out) | (with_reducible refine Kd.C_alloc ?_ _) | (with_reducible refine Kd.C_drewN ?_ _) | (with_reducible refine Kd.C_drew ?_)))); (case aB => exact (by repeat (first | (with_reducible first | exact HB.out | apply below_alloc | apply pw_below_drewN | apply below_drew1) | exact HB.out))); (case aF => exact (fun _ _ => trivial)); (case aO => exact (by (with_reducible repeat (first | apply Kd.R_alloc | apply Kd.R_drewN | apply Kd.R_drew)); exact HO_8.out)); (case aS => exact (below_size (by repeat (first | (with_reducible first | exact HB.out | apply below_alloc | apply pw_below_drewN | apply below_drew1) | exact HB.out)))); (case aL => have := LMc18.out; have hlx_ := (show (l0.drop (x9_1 : Int).toNat).length = (l0.length - x9_1.toNat) from List.length_drop); omega); intro v167 w20 ho hb hg hat; rw [← Ny166.out] at ho; have n0_ := Aside0.mk (hb); have n1_ := Aside0.mk (ho); clear HB; clear HO_8; have HB := n0_; have HO168 := n1_; clear n0_ n1_; clear ho hb hg hat))
              obtain ⟨Ao, co, eo⟩ := Kd.R_slice HO168.out
              subst eo
              refine (audit_Kept.calls 100 A0 c0 l0 _ co y166 A1 c1 l1 true _ (Kd.C_below HR0.out HB.out) HC0.out (Kd.R_reads' HO168.out).2.2 (Kd.R_reads' HO168.out).2.1 (Kd.C_below HR1.out HB.out) HC1.out (by rw [HKEPT.out y166 HRR.out]; simp)).mono ?_
              rintro e w2 ⟨rfl, hb⟩
              have HOO := Aside0.mk (Kd.C_below (Kd.R_reads' HO168.out).2.2 hb)
              have HOC := Aside0.mk (Kd.R_reads' HO168.out).2.1
              have HB2 := Aside0.mk (below_step HB.out hb)
              have HR02 := Aside0.mk (Kd.C_below HR0.out HB2.out)
              have HR12 := Aside0.mk (Kd.C_below HR1.out HB2.out)
              clear hb HB HO168 HR0 HR1 LMc18 Ny166 HR165 HC165 hcut19 c4b0 c16b0 c16b1 c17b0 c17b1
              go_wp2_with fail
              refine (scholiumkeep_Copy_byte.calls Ao co y166 y166 _ HOO.out HOC.out (copy_some _ (Nat.lt_of_le_of_lt HRL.out (by decide)))).mono ?_
              rintro e w3 ⟨v3, rfl, hR3, hb3⟩
              have HR3 := Aside0.mk hR3
              have HB3 := Aside0.mk hb3
              clear hR3 hb3
              go_wp2_with (first | ((with_reducible refine gate_builtin (b := .append) (xs := #[.tmp 58, .tmp 59]) rfl ?_); (try (refine gate_guard (by rfl) ?_; dsimp only)); at_builtin; refine Kd.R_append (Kd.int .u8) (w0 := w2) w2.heap.size rfl (.tmp 58) (.tmp 59) 22 5 (.int .u8 0) 1 rfl Try.underlying22 info5 rfl (by decide) (by omega) v3 y166 120 [.int .u8 120] (fun _ => True) (fun _ => False) rfl (by first | (go_simp; done) | (go_simp; rfl)) rfl (fun _ hk => hk.elim) (fun _ _ => trivial) HR3.out HB3.out (below_size HB3.out) ?aL ?_; (case aL => have := HRL.out; omega); intro v4 w4 ho hb hg hat; obtain ⟨z4, hz4⟩ : ∃ z : List Int, z = y166 ++ [120] := ⟨_, rfl⟩; rw [← hz4] at ho; have HZ4 := Aside0.mk hz4; clear hz4; have HR4 := Aside0.mk ho; have HB4 := Aside0.mk hb; clear ho hb hg hat HR3 HB3; obtain ⟨A4, c4, e4⟩ := Kd.R_slice HR4.out; subst e4))
              have hK4 : audit_Kept.f 100 l0 z4 l1 = some false := by rw [HZ4.out]; exact kept_snoc HKEPT.out HRR.out
              refine (audit_Kept.calls 100 A0 c0 l0 A4 c4 z4 A1 c1 l1 false _ (Kd.C_below HR02.out HB4.out) HC0.out (Kd.R_reads' HR4.out).2.2 (Kd.R_reads' HR4.out).2.1 (Kd.C_below HR12.out HB4.out) HC1.out hK4).mono ?_
              rintro e w5 ⟨rfl, hb⟩
              have HB5 := Aside0.mk (below_step HB4.out hb)
              have HOO5 := Aside0.mk (Kd.C_below HOO.out HB5.out)
              have HR05 := Aside0.mk (Kd.C_below HR02.out HB5.out)
              have HR15 := Aside0.mk (Kd.C_below HR12.out HB5.out)
              have HW5 := Aside0.mk (below_step HW.out (below_step HB2.out HB5.out))
              clear hb hK4 HZ4 HB4 HR4 HOO HR02 HR12 HW HB2 HB5
              by_cases he : y166 = []
              · have d66 : decide ((y166.length : Int) = 0) = true := by rw [he]; rfl
                have d66n : ((y166.length : Int) == 0) = true := by rw [he]; rfl
                have d66l : decide (y166 = []) = true := by rw [he]; rfl
                have he' := Aside0.mk he
                clear he
                go_wp2_with fail
                refine (audit_Kept.calls 100 A0 c0 l0 none 0 [] A1 c1 l1 true _ HR05.out HC0.out (Kd.C_nil _ _) (Nat.le_refl _) HR15.out HC1.out (by rw [HKEPT.out [] (by simp), he'.out]; simp)).mono ?_
                rintro e w6 ⟨rfl, hb⟩
                have HW6 := Aside0.mk (below_step HW5.out hb)
                clear hb HW5
                go_wp2_with fail
                refine (wakes25 _).mono ?_
                rintro e w7 ⟨rfl, hb⟩
                have HW7 := Aside0.mk (below_step HW6.out hb)
                clear hb HW6
                go_wp2
                go_ret
                exact ⟨rfl, HW7.out⟩
              · have hpos : 0 < y166.length := List.length_pos_iff.2 he
                have d66 : decide ((y166.length : Int) = 0) = false := decide_eq_false (by omega)
                have d66n : ((y166.length : Int) == 0) = false := beq_eq_false_iff_ne.2 (by omega)
                have d66l : decide (y166 = []) = false := decide_eq_false he
                have hp := Aside0.mk hpos
                clear he hpos
                go_wp2_with fail
                refine (scholiumkeep_Copy_byte.calls Ao co y166 y166 _ HOO5.out HOC.out (copy_some _ (Nat.lt_of_le_of_lt HRL.out (by decide)))).mono ?_
                rintro e w6 ⟨v6, rfl, hR6, hb6⟩
                obtain ⟨g, cg, rfl, hbase, _, _⟩ := Kd.R_form hR6 hp.out
                have HG := Aside0.mk hbase
                have HR6 := Aside0.mk hR6
                have HB6 := Aside0.mk hb6
                clear hR6 hb6 hbase
                go_wp2_with fail
                obtain ⟨i, hi, hi0, hi1⟩ := within_some a2 (y166.length : Int) (by have := hp.out; omega) (by have := HRL.out; omega)
                refine (scholiumkeep_Within.calls a2 _ i _ hi).mono ?_
                rintro e w7 ⟨rfl, hb7⟩
                have hR7 := Kd.R_below HR6.out hb7
                obtain ⟨hcell, hfz⟩ := Kd.R_cell (0 : Int) hR7 i hi0 hi1
                have HR7 := Aside0.mk hR7
                have HB7 := Aside0.mk (below_step HB6.out hb7)
                have hi0' := eq_true hi0
                have hi1' := eq_true hi1
                have hi1d := decide_eq_true hi1
                have hi0d := decide_eq_true hi0
                clear hR7 hb7 HB6 HR6 hi
                go_wp2_with fail
                obtain ⟨hb0, hb1, hbne⟩ := xor_one (rdOf 0 y166 i) (rd_range HRR.out hi0 hi1)
                obtain ⟨b, hb⟩ : ∃ b, bits BinOp.xor IntKind.u8 (rdOf 0 y166 i) 1 = b := ⟨_, rfl⟩
                rw [hb] at hb0 hb1 hbne ⊢
                have hput := (Kd.R_put HR7.out i b).1
                have hzl : (y166.set i.toNat b).length = y166.length := List.length_set
                have hzne : y166 ≠ y166.set i.toNat b := set_ne y166 i b hi0 hi1 hbne
                have hzr := range_set HRR.out i.toNat ⟨hb0, hb1⟩
                obtain ⟨z, hz⟩ : ∃ z, y166.set i.toNat b = z := ⟨_, rfl⟩
                rw [hz] at hput hzl hzne hzr
                have hK : audit_Kept.f 100 l0 z l1 = some false := by rw [HKEPT.out z hzr, decide_eq_false hzne]
                have HK := Aside0.mk hK
                have HB8 := Aside0.mk (below_set (v := Value.int IntKind.u8 b) (j := i.toNat) HB7.out HG.out)
                have HPUT := Aside0.mk hput
                have HZL := Aside0.mk hzl
                clear hK hput hzl hzne hzr hz hcell hfz hi0 hi1 hi0' hi1' hi0d hi1d hb hbne hb0 hb1 HB7 HR7
                have r8 := Kd.R_reads' HPUT.out
                have hc8 := audit_Kept.calls 100 A0 c0 l0 _ cg z A1 c1 l1 false _ (Kd.C_below HR05.out HB8.out) HC0.out r8.2.2 (HZL.out ▸ r8.2.1) (Kd.C_below HR15.out HB8.out) HC1.out HK.out
                rw [HZL.out] at hc8
                refine hc8.mono ?_
                rintro e w9 ⟨rfl, hb9⟩
                have HB9 := Aside0.mk (below_step HB8.out hb9)
                clear r8 hb9 HB8 HPUT HK hc8
                obtain ⟨i05, hi05, _, hsz5, _⟩ := info_parts info5
                obtain ⟨hcut5, hA5, hC5⟩ := print_take_of (P := Try.prog) (Value.int .u8) (0 : Int) 22 5 .i64 Try.underlying22 hi05 hsz5 Ao co y166 (wrap64 ((y166.length : Int) - 1)) (by have := hp.out; have := HRL.out; rw [w64 (by omega) (by omega)]; omega) (by have := hp.out; have := HRL.out; rw [w64 (by omega) (by omega)]; omega) HOC.out
                have hl5 : (y166.take (wrap64 ((y166.length : Int) - 1)).toNat).length ≠ y166.length := by have := hp.out; have := HRL.out; rw [w64 (by omega) (by omega), List.length_take]; omega
                have hr5 := range_take HRR.out (wrap64 ((y166.length : Int) - 1)).toNat
                have HR5 := Aside0.mk (Kd.C_of_reads (h1 := fun _ => rfl) (hA5 _ (Kd.reads_of_C (Kd.C_below HOO5.out HB9.out))))
                obtain ⟨z5, hz5⟩ : ∃ z, y166.take (wrap64 ((y166.length : Int) - 1)).toNat = z := ⟨_, rfl⟩
                rw [hz5] at hcut5 hC5 hl5 hr5 HR5
                have HK5 := Aside0.mk (show audit_Kept.f 100 l0 z5 l1 = some false by rw [HKEPT.out z5 hr5, decide_eq_false (fun e => hl5 (by rw [← e]))])
                have HC5 := Aside0.mk hC5
                clear hl5 hr5 hz5 hC5 hA5 hi05 hsz5
                go_wp2_with fail
                refine (audit_Kept.calls 100 A0 c0 l0 Ao co z5 A1 c1 l1 false _ (Kd.C_below HR05.out HB9.out) HC0.out HR5.out HC5.out (Kd.C_below HR15.out HB9.out) HC1.out HK5.out).mono ?_
                rintro e w10 ⟨rfl, hb10⟩
                have HW10 := Aside0.mk (below_step HW5.out (below_step HB9.out hb10))
                clear hb10 HB9 HR5 hcut5
                go_wp2_with fail
                refine (wakes25 _).mono ?_
                rintro e w11 ⟨rfl, hb11⟩
                have HW11 := Aside0.mk (below_step HW10.out hb11)
                clear hb11 HW10
                go_wp2
                go_ret
                exact ⟨rfl, HW11.out⟩

            · rw [if_neg c18] at H
              exact absurd H (by simp)
          · rw [if_neg c17] at H
            exact absurd H (by simp)
        · rw [if_neg c16] at H
          exact absurd H (by simp)
end Go.Proofs.Ytbaokhcadifdmaa.Pure

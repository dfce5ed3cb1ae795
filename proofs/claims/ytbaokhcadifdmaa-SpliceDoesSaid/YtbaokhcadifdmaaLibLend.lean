/- scholiumkeep.Lend and Intact, walked: bytes with three of their own behind them; whether they are as they were. -/
import Derived.Test.YtbaokhcadifdmaaPAllBase
set_option linter.unusedVariables false
set_option linter.unusedSimpArgs false
namespace Go.Proofs.Ytbaokhcadifdmaa.Pure
open Go.RowKit Go.Proofs.Ytbaokhcadifdmaa.PAll Go.Proofs.YtbaokhcadifdmaaW.PrintWords Go.Proofs.YtbaokhcadifdmaaW.PrintLast Go.Proofs.YtbaokhcadifdmaaW.PrintMore

/-- copy onto the first n cells of a row. -/
theorem copy_head {ops : Array Oper} {rest : List Oper} {o : Oper} {a : Act} {Q : Exit → Act → World → Prop} {w0 W : World} (base : Nat) (hgd : o.guard = none) (s x : Operand)
    (ho : o.op = .call { callee := .builtin .copy, args := #[s, x], argTypes := #[22, 22] }) (g n cap : Nat) (xs ys : List Int) (A : Option Addr) (c : Nat)
    (hs : a.eval s = .slice (some ⟨g, 0, none⟩) n cap) (hx : a.eval x = .slice A n c) (hyn : ys.length = n) (hnx : n ≤ xs.length)
    (HO : Kd.R (Kd.int .u8) 5 W base (fun _ => True) (.slice (some ⟨g, 0, none⟩) xs.length cap) xs) (HR : Kd.C (Kd.int .u8) W A n ys) (HB : Below base w0 W) (hbase : base ≤ W.heap.size)
    (h : ∀ w1, Kd.R (Kd.int .u8) 5 w1 base (fun _ => True) (.slice (some ⟨g, 0, none⟩) xs.length cap) (ys ++ xs.drop n) → Below base w0 w1 → wpList Try.prog ops Q rest (a.put o.dst (.int .i64 (n : Int))) w1) :
    wpList Try.prog ops Q (o :: rest) a W := by
  have hR := Kd.reads_of_C (enc := Value.int .u8) (d := (0 : Int)) (h1 := fun _ => rfl) HR
  have hown := Kd.own_of_R HO
  have hinfo : (Try.prog.info? 5).map (·.size) = some 1 := by kernel_rfl
  have fin : ∀ w1, (Builtin.copy_ #[22, 22] o.type #[.slice (some ⟨g, 0, none⟩) n cap, .slice A n c]).run Try.prog W = .ok (goInt ((n : Nat) : Int)) w1 → Kd.R (Kd.int .u8) 5 w1 base (fun _ => True) (.slice (some ⟨g, 0, none⟩) xs.length cap) (ys ++ xs.drop n) → W.grownBy w1 (some g) → wpList Try.prog ops Q (o :: rest) a W := by
    intro w1 hr hrow hg
    refine wpList_plain hgd fun K hK => ?_
    unfold Oper.wp execOp
    simp only [ho, resolve, invoke, builtin, Sem.run_bind, Sem.run_pure, Result.andThen_ok, List.map_toArray, List.map_cons, List.map_nil, hs, hx, hr]
    exact hK _ _ (h w1 hrow (HB.grown hg hbase (own_base hown)))
  rcases Nat.eq_zero_or_pos n with h0 | hp
  · subst h0
    obtain rfl : ys = [] := List.eq_nil_of_length_eq_zero hyn
    refine fin W ?_ (by rw [List.drop_zero, List.nil_append]; exact HO) (World.grownBy.refl W _)
    exact run_copy_none W 22 22 o.type 5 (some ⟨g, 0, none⟩) A 0 cap 0 c Try.underlying22 hinfo rfl
  · obtain ⟨ad, hA, hc⟩ := hR.2.2 hp
    rcases hown.2 with ⟨hv, _⟩ | ⟨g', cap', cur, hv, hb, hh, hnc, hcm, hcs, htake⟩
    · cases hv
    injection hv with e1 _ e2
    injection e1 with e1
    injection e1 with e1
    subst e1; subst e2
    have hcs1 : cur.size = cap := by omega
    have hkl : (encs (Value.int .u8) ys).length = n := by rw [encs_length]; exact hyn
    have hsrc : ∀ j u, (encs (Value.int .u8) ys)[j]? = some u → W.cell? (ad.add j) = some u := by
      intro j u hu
      have hj : j < ys.length := by
        rcases Nat.lt_or_ge j ys.length with h | h
        · exact h
        · rw [List.getElem?_eq_none (by rw [encs_length]; exact h)] at hu
          cases hu
      rw [encs_get (d := (0 : Int)) _ j hj] at hu
      rw [hc j (by omega), ← hu]
    have hr := run_copy_cells (P := Try.prog) W 22 22 o.type 5 g 0 n cap ad n c (encs (Value.int .u8) ys) Try.underlying22 hinfo (by rw [hkl]; exact (Nat.min_self n).symm) hsrc
      (fun j hj => by rw [cell_of_row W g _ cur 5 (0, 0) hh]; simp; omega) (fun j _ => blk_frozen hh _) (by intro u hu; simp only [encs, List.mem_map] at hu; obtain ⟨q, _, rfl⟩ := hu; rfl)
    obtain ⟨cur', h3, h4, h5⟩ := setCells_row (encs (Value.int .u8) ys) 0 W cur hh (by rw [hkl]; omega)
    obtain ⟨s1, s2, s3, s4⟩ := setCells_same g (encs (Value.int .u8) ys) 0 W
    refine fin _ (by rw [hA, hr, hkl]) (Kd.R_of_own ?_ HO.1) ⟨s1, s2, s3, by rw [s4]; exact Nat.le_refl _, fun k _ hk => setCells_far _ _ k (fun he => hk (by rw [he]))⟩
    have hln : (ys ++ xs.drop n).length = xs.length := by
      rw [List.length_append, List.length_drop]
      omega
    rw [hln]
    refine ⟨by rw [encs_length, hln, Nat.mul_one], .inr ⟨g, cap, cur', rfl, hb, h3, hnc, hcm, by rw [h4, hcs], ?_⟩⟩
    rw [h5, List.take_zero, List.nil_append, hkl, Nat.zero_add, encs_append, Nat.mul_one]
    rw [List.take_append, hkl, List.take_of_length_le (by rw [hkl]; omega)]
    congr 1
    have htk : cur.toList.take xs.length = encs (Value.int .u8) xs := by rw [← htake, Nat.mul_one]
    have hd : encs (Value.int .u8) (xs.drop n) = (encs (Value.int .u8) xs).drop n := by simp [encs, List.map_drop]
    rw [hd, ← htk, List.drop_take]
/-- The bytes, then what has been filled, then what has not. -/
def fill (l : List Int) (k : Nat) : List Int := l ++ List.replicate k 85 ++ List.replicate (3 - k) 0
theorem fill_length (l : List Int) (k : Nat) (hk : k ≤ 3) : (fill l k).length = l.length + 3 := by
  unfold fill
  simp only [List.length_append, List.length_replicate]
  omega
theorem fill_set (l : List Int) (k : Nat) (hk : k < 3) : (fill l k).set (l.length + k) 85 = fill l (k + 1) := by
  unfold fill
  have e : l.length + k - (l ++ List.replicate k 85).length = 0 := by simp
  rw [List.set_append_right _ _ (by simp), e, show 3 - k = (3 - (k + 1)) + 1 by omega, List.replicate_succ, List.set_cons_zero, List.replicate_succ' (n := k)]
  simp
set_option maxHeartbeats 4000000 in
set_option maxRecDepth 100000 in
theorem lend_walk (A : Option Addr) (c : Nat) (l : List Int) (w : World) (hr : Kd.C (Kd.int .u8) w A l.length l) (hc : l.length ≤ c) (hl : l.length ≤ 1000) :
    Calls Try.prog 25 #[.slice A l.length c] w fun e w' => ∃ g, e = .returned (.slice (some ⟨g, 0, none⟩) l.length (l.length + 3)) ∧ w.heap.size ≤ g ∧ Kd.R (Kd.int .u8) 5 w' w.heap.size (fun _ => True) (.slice (some ⟨g, 0, none⟩) (l.length + 3) (l.length + 3)) (l ++ [85, 85, 85]) ∧ Below w.heap.size w w' := by
  have hmk : ∀ W : World, (Instr.makeSlice 22 (.int .i64 (l.length : Int)) (.int .i64 ((l.length : Int) + 3))).run Try.prog W = .ok (.slice (some ⟨W.heap.size, 0, none⟩) l.length (l.length + 3)) (W.alloc (.cells (madeCells #[.int .u8 0] (l.length + 3)) 5)) := by
    intro W
    obtain ⟨i0, hi, hzz⟩ := Option.map_eq_some_iff.1 info5
    simp only [Prod.mk.injEq] at hzz
    obtain ⟨hz0, hz1, hz2⟩ := hzz
    have h := run_make (P := Try.prog) W 22 5 i0 _ Try.underlying22 hi hz0 .i64 .i64 (l.length : Int) ((l.length : Int) + 3) (by omega) (by omega) (by rw [hz2, Int.natCast_one, Int.one_mul]; omega) (by omega)
    rw [h, hz1, show ((l.length : Int) + 3).toNat = l.length + 3 by omega, Int.toNat_natCast, Nat.mul_one]
    rfl
  have HR := Aside0.mk hr
  have HC := Aside0.mk hc
  clear hr hc
  go_enter Try.func25, Try.ntmps25
  go_wp2_with (with_reducible refine copy_head (w0 := w) w.heap.size rfl (.tmp 12) (.tmp 13) rfl w.heap.size l.length (l.length + 3) (List.replicate (l.length + 3) 0) l A c rfl rfl rfl ?c1 ?c2 ?c3 ?c4 ?c5 ?_)
  case c1 => simp
  case c2 =>
    have h := Kd.R_of_own (h1 := fun _ => rfl) (ok := fun _ => True) (own_made' w w.heap.size 5 .u8 (l.length + 3) (Nat.le_refl _) (by omega)) (fun _ _ => trivial)
    rwa [List.length_replicate]
  case c3 => exact Kd.C_alloc HR.out _
  case c4 => exact (Below.refl _ _).alloc (Nat.le_refl _) _
  case c5 => simp
  intro w1 ho hb
  have ho' : Kd.R (Kd.int .u8) 5 w1 w.heap.size (fun _ => True) (.slice (some ⟨w.heap.size, 0, none⟩) (l.length + 3) (l.length + 3)) (fill l 0) := by
    have e : fill l 0 = l ++ [0, 0, 0] := by unfold fill; simp [List.replicate]
    rw [e]
    exact ho
  have HO := Aside0.mk ho'
  have HB := Aside0.mk hb
  have HG := Aside0.mk (Nat.le_refl w.heap.size)
  clear ho ho' hb hmk
  obtain ⟨g, hg⟩ : ∃ g, w.heap.size = g := ⟨_, rfl⟩
  have HGE := Aside0.mk hg
  have HO1 : Aside0 (Kd.R (Kd.int .u8) 5 w1 w.heap.size (fun _ => True) (.slice (some ⟨g, 0, none⟩) (l.length + 3) (l.length + 3)) (fill l 0)) := by rw [← hg]; exact HO
  clear HO
  rw [hg]
  clear hg
  go_wp2_with fail
  go_loopw [5] (fun v5 wr => ∃ j : Nat, l.length ≤ j ∧ j ≤ l.length + 3 ∧ v5 = .int .i64 (j : Int) ∧ Aside0 (Kd.R (Kd.int .u8) 5 wr w.heap.size (fun _ => True) (.slice (some ⟨g, 0, none⟩) (l.length + 3) (l.length + 3)) (fill l (j - l.length))) ∧ Aside0 (Below w.heap.size w wr)) (fun v5 _ => l.length + 3 - (intOf v5).toNat)
  case atStart => exact ⟨l.length, Nat.le_refl _, by omega, rfl, by rw [Nat.sub_self]; exact HO1, HB⟩
  case round =>
    clear HO1 HB
    obtain ⟨j, hj0, hj3, rfl, HO, HB⟩ := hrel
    by_cases hlt : j < l.length + 3
    · have hltz : (j : Int) < (l.length : Int) + 3 := by omega
      have hj0z : (0 : Int) ≤ (j : Int) := by omega
      have hfl : (fill l (j - l.length)).length = l.length + 3 := fill_length l _ (by omega)
      obtain ⟨hcell, hfz⟩ := Kd.R_celln (0 : Int) HO.out (j : Int) (by omega) (by omega)
      have HFL := Aside0.mk hfl
      clear hfl
      simp only [Int.toNat_natCast] at hcell hfz
      go_wp2
      go_roundw
      case rel =>
        have hput := (Kd.R_putn HO.out (j : Int) 85)
        rw [Int.toNat_natCast] at hput
        refine ⟨j + 1, by omega, by omega, by go_num, ⟨?_⟩, ⟨below_set HB.out (by rw [HGE.out]; exact Nat.le_refl _)⟩⟩
        have e : (fill l (j - l.length)).set j 85 = fill l (j + 1 - l.length) := by
          have h := fill_set l (j - l.length) (by omega)
          rwa [show l.length + (j - l.length) = j by omega, show j - l.length + 1 = j + 1 - l.length by omega] at h
        rw [← e]
        exact hput
      case measure => simp [intOf]; omega
    · obtain rfl : j = l.length + 3 := by omega
      go_wp2
      go_ret
      refine ⟨g, rfl, by rw [HGE.out]; exact Nat.le_refl _, ?_, HB.out⟩
      have h := HO.out
      rw [show l.length + 3 - l.length = 3 by omega] at h
      have e : fill l 3 = l ++ [85, 85, 85] := by unfold fill; simp [List.replicate]
      rwa [e] at h
theorem cellC {w : World} {A : Option Addr} {n : Nat} {xs : List Int} (h : Kd.C (Kd.int .u8) w A n xs) (j : Nat) (hj : j < n) : ∃ ad, A = some ad ∧ w.cell? (ad.add j) = some (.int .u8 (xs.getD j 0)) := by
  obtain ⟨ad, e, hc⟩ := (Kd.reads_of_C (d := (0 : Int)) h).2.2 (by omega)
  exact ⟨ad, e, hc j hj⟩
theorem cellG {w : World} {g : Nat} {n : Nat} {xs : List Int} (h : Kd.C (Kd.int .u8) w (some ⟨g, 0, none⟩) n xs) (j : Nat) (hj : j < n) : w.cell? ⟨g, j, none⟩ = some (.int .u8 (xs.getD j 0)) := by
  obtain ⟨ad, e, hc⟩ := cellC h j hj
  cases e
  rwa [add_plain] at hc
theorem getD_in (l : List Int) (j : Nat) (hj : j < l.length) : (l ++ [85, 85, 85]).getD j 0 = l.getD j 0 := by
  rw [List.getD_eq_getElem?_getD, List.getElem?_append_left hj, List.getD_eq_getElem?_getD]
theorem getD_out (l : List Int) (j : Nat) (hj : l.length ≤ j) (hj3 : j < l.length + 3) : (l ++ [85, 85, 85]).getD j 0 = 85 := by
  rw [List.getD_eq_getElem?_getD, List.getElem?_append_right hj]
  obtain ⟨k, hk⟩ : ∃ k, j - l.length = k := ⟨_, rfl⟩
  rw [hk]
  match k, (by omega : k < 3) with
  | 0, _ => rfl
  | 1, _ => rfl
  | 2, _ => rfl
set_option maxHeartbeats 4000000 in
set_option maxRecDepth 100000 in
/-- What Lend has lent, untouched: Intact says so. -/
theorem intact_walk (g : Nat) (A : Option Addr) (c : Nat) (l : List Int) (w : World) (hg : Kd.C (Kd.int .u8) w (some ⟨g, 0, none⟩) (l.length + 3) (l ++ [85, 85, 85])) (hr : Kd.C (Kd.int .u8) w A l.length l) (hc : l.length ≤ c) (hl : l.length ≤ 1000) :
    Calls Try.prog 30 #[.slice (some ⟨g, 0, none⟩) l.length (l.length + 3), .slice A l.length c] w fun e w' => e = .returned (.bool true) ∧ Below w.heap.size w w' := by
  have HG := Aside0.mk hg
  have HR := Aside0.mk hr
  have HC := Aside0.mk hc
  clear hg hr hc
  go_enter Try.func30, Try.ntmps30
  go_wp2_with fail
  go_loopw [27] (fun v27 wr => ∃ j : Nat, j ≤ l.length + 3 ∧ v27 = .int .i64 (j : Int) ∧ Aside0 (Below w.heap.size w wr)) (fun v27 _ => l.length + 3 - (intOf v27).toNat)
  case atStart => exact ⟨0, by omega, by first | rfl | go_num, ⟨Below.refl _ _⟩⟩
  case round =>
    obtain ⟨j, hj, rfl, HB⟩ := hrel
    have hw3 : ∀ n' : Nat, Kd.C (Kd.int .u8) (wr.drewN n') (some ⟨g, 0, none⟩) (l.length + 3) (l ++ [85, 85, 85]) := fun n' => Kd.C_drewN (Kd.C_below HG.out HB.out) n'
    by_cases hlt : j < l.length
    · have hltz : (j : Int) < (l.length : Int) := by omega
      have hltz3 : (j : Int) < (l.length : Int) + 3 := by omega
      obtain ⟨x, hx⟩ : ∃ x, l.getD j 0 = x := ⟨_, rfl⟩
      have g0 : ∀ n' : Nat, (wr.drewN n').cell? ⟨g, j, none⟩ = some (.int .u8 x) := fun n' => by
        rw [← hx, ← getD_in l j hlt]
        exact cellG (hw3 n') j (by omega)
      obtain ⟨ad, rfl, _⟩ := cellC HR.out j hlt
      have a0 : ∀ n' : Nat, (wr.drewN n').cell? (ad.add j) = some (.int .u8 x) := fun n' => by
        obtain ⟨ad', e, h⟩ := cellC (Kd.C_drewN (Kd.C_below HR.out HB.out) n') j hlt
        cases e
        rw [← hx]
        exact h
      have d0 : decide (l.length ≤ j) = false := decide_eq_false (by omega)
      have d1 : decide ((l.length : Int) ≤ (j : Int)) = false := decide_eq_false (by omega)
      clear hw3 hx
      go_wp2_with fail
      go_quiet (fail)
      go_wp2
      go_roundw
      case rel => exact ⟨j + 1, by omega, by go_num, ⟨pw_below_drewN HB.out _⟩⟩
      case measure => simp [intOf]; omega
    · have hge : l.length ≤ j := by omega
      have hgez : (l.length : Int) ≤ (j : Int) := by omega
      have hgn : ¬ (j : Int) < (l.length : Int) := by omega
      by_cases hlt3 : j < l.length + 3
      · have hltz3 : (j : Int) < (l.length : Int) + 3 := by omega
        have g0 : ∀ n' : Nat, (wr.drewN n').cell? ⟨g, j, none⟩ = some (.int .u8 85) := fun n' => by
          rw [← getD_out l j hge hlt3]
          exact cellG (hw3 n') j (by omega)
        clear hw3
        go_wp2_with fail
        go_quiet (fail)
        go_wp2
        go_roundw
        case rel => exact ⟨j + 1, by omega, by go_num, ⟨pw_below_drewN HB.out _⟩⟩
        case measure => simp [intOf]; omega
      · obtain rfl : j = l.length + 3 := by omega
        go_wp2
        go_ret
        exact ⟨rfl, HB.out⟩
end Go.Proofs.Ytbaokhcadifdmaa.Pure

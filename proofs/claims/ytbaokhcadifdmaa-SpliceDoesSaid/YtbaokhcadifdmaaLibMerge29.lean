/- The reference's Merge (scholiumref01.Merge), walked: a new row, the same Splices in order ('srt'). -/
import Derived.Test.YtbaokhcadifdmaaLibMerge
import Derived.Test.YtbaokhcadifdmaaWRepsOne
set_option linter.unusedVariables false
set_option linter.unusedSimpArgs false
namespace Go.Proofs.Ytbaokhcadifdmaa.Pure
open Go.RowKit Go.Proofs.Ytbaokhcadifdmaa.PAll Go.Proofs.YtbaokhcadifdmaaW.PrintWords Go.Proofs.YtbaokhcadifdmaaW.PrintLast Go.Proofs.YtbaokhcadifdmaaW.PrintMore Go.Proofs.YtbaokhcadifdmaaW.Plain

/-- One Splice in a new row. -/
theorem one_row (W : World) (x : S35) : Kd.R k35 35 (W.alloc (.cells #[.int .i64 x.f0, .int .i64 x.f1, .string x.f2] 35)) W.heap.size (fun _ => True) (.slice (some ⟨W.heap.size, 0, none⟩) 1 1) [x] :=
  ⟨fun _ _ => trivial, OwnRow.lit (e := 35) (size := 3) (ps := [x]) (inner := [.int .i64 x.f0, .int .i64 x.f1, .string x.f2]) W W.heap.size (Reps.c3 (k35_mkM _ _ _ x) (Reps.none _ _)) (Nat.le_refl _) (by simp)⟩
theorem reps_len {R : S35 → List Value → Prop} {ps : List S35} {cs : List Value} (h : Reps R 3 ps cs) : cs.length = ps.length * 3 := h.1
/-- append onto a slice without room: a new row. -/
theorem grow_step {ops : Array Oper} {o : Oper} {a : Act} {Q : Exit → Act → World → Prop} {Kc : Act → World → Prop} {w0 W : World} (hw : Region.wanted o (yielded ops a.tmps) = true) (s x : Operand)
    (ho : o.op = .call { callee := .builtin .append, args := #[s, x], argTypes := #[36, 36] }) (A A' : Option Addr) (k c' : Nat) (xs ys : List S35) (hs : a.eval s = .slice A k k) (hx : a.eval x = .slice A' ys.length c') (hk : xs.length = k)
    (hC : Kd.C k35 W A k xs) (hY : Kd.C k35 W A' ys.length ys) (hy : 0 < ys.length) (HB : Below w0.heap.size w0 W) (hl : (xs.length + ys.length) * 32 ≤ 140737488355328)
    (h : ∀ v1 w1, Kd.R k35 35 w1 w0.heap.size (fun _ => True) v1 (xs ++ ys) → Below w0.heap.size w0 w1 → Kc (a.put o.dst v1) w1) :
    if Region.wanted o (yielded ops a.tmps) = true then Oper.wp Try.prog o a W Kc Q else Kc (a.put o.dst undef) W := by
  rw [if_pos hw]
  obtain ⟨i0, hi, hzz⟩ := Option.map_eq_some_iff.1 info35
  simp only [Prod.mk.injEq] at hzz
  obtain ⟨hz0, hz1, hz2⟩ := hzz
  obtain ⟨ad', rfl, _⟩ := hY.2.2 hy
  obtain ⟨news, hnr, hnc⟩ := ReadsRow.inner_ hY
  have hnl : news.length = ys.length * 3 := reps_len hnr
  have hn1 : ∀ u ∈ news, u.oneCell' = true := by
    intro u hu
    obtain ⟨q, hq, rfl⟩ := List.mem_iff_getElem.1 hu
    have hql : q / 3 < ys.length := by omega
    have hc := hnr.2 (q / 3) _ (List.getElem?_eq_getElem hql)
    refine k35.K_one hc _ ?_
    rw [List.mem_iff_getElem?]
    refine ⟨q % 3, ?_⟩
    show (List.take 3 (List.drop (q / 3 * 3) news))[q % 3]? = _
    rw [List.getElem?_take, if_pos (Nat.mod_lt _ (by omega)), List.getElem?_drop, show q / 3 * 3 + q % 3 = q by omega, List.getElem?_eq_getElem hq]
  have key : ∃ v1 w1 olds, (Builtin.append_ #[36, 36] o.type #[.slice A k k, .slice (some ad') ys.length c']).run Try.prog W = .ok v1 w1 ∧ w1.ownsRow W.heap.size 35 3 v1 (k + ys.length) (olds ++ news) ∧ W.grownBy w1 none ∧ Reps (k35.K W) 3 xs olds := by
    rcases A with _ | ad
    · have h0 : k = 0 := by
        rcases Nat.eq_zero_or_pos k with h0 | h0
        · exact h0
        · obtain ⟨ad, h, _⟩ := hC.2.2 h0
          cases h
      subst h0
      obtain rfl : xs = [] := List.eq_nil_of_length_eq_zero hk
      obtain ⟨v1, w1, hrun, r1, r2, _⟩ := run_append_own (P := Try.prog) W W.heap.size 36 o.type 35 i0 _ 3 32 Try.underlying36 hi hz0 hz1 hz2 rfl (by decide) (.slice none 0 0) 0 [] (World.ownsRow_nil W _ 35 3) ad' ys.length c' news hnl hnc hn1 (by simp only [maxLen]; omega) (by simp only [List.length_nil] at hl; omega) (Nat.le_refl _)
      exact ⟨v1, w1, [], hrun, by simpa using r1, r2, Reps.none _ _⟩
    · obtain ⟨olds, hor, hoc⟩ := ReadsRow.inner_ hC
      have hol : olds.length = k * 3 := by rw [reps_len hor, hk]
      obtain ⟨v1, w1, hrun, r1, r2⟩ := run_append_arg_grows (P := Try.prog) W 36 o.type 35 i0 _ 3 32 Try.underlying36 hi hz0 hz1 hz2 rfl (by decide) ad k k olds hol hoc ad' ys.length c' news hnl hnc (by omega) (by simp only [maxLen]; omega) (by rw [← hk]; exact hl)
      exact ⟨v1, w1, olds, hrun, r1, r2, hor⟩
  obtain ⟨v1, w1, olds, hrun, hown, hg, hor⟩ := key
  have hR : Kd.R k35 35 w1 W.heap.size (fun _ => True) v1 (xs ++ ys) :=
    ⟨fun _ _ => trivial, olds ++ news, by rw [List.length_append, hk]; exact hown, Kd.reps_append (hor.imp_ (fun _ _ h => h)) (hnr.imp_ (fun _ _ h => h))⟩
  unfold Oper.wp execOp
  simp only [ho, resolve, invoke, builtin, Sem.run_bind, Sem.run_pure, Result.andThen_ok, List.map_toArray, List.map_cons, List.map_nil, hs, hx, hrun]
  exact h v1 w1 (Kd.R_lower hR HB.size) (pw_below_grown HB none HB.size hg (fun k hk => by cases hk))
def T29 : Bool × List (List Nat × List Nat) := (true, [([], []), ([], []), ([], []), ([0, 1, 2], [0, 1, 2]), ([], []), ([], []), ([4, 5], [4, 5]), ([6], [6]), ([7], [7]), ([], []), ([], []), ([9, 10], [9, 10]), ([8, 11], [8, 11]), ([3, 12, 12], [3, 12]), ([13, 13, 0, 1, 2, 3, 4, 5, 6, 7, 8, 9, 10, 11, 12, 13], [0, 9, 13])])
def B29 : List Nat := [0, 0, 0, 7, 0, 0, 48, 112, 240, 0, 0, 1536, 4080, 8191, 16383]
theorem tab29 : rtab .any (opsOf Try.f29 8) = T29 := by kernel_rfl
theorem bits29 : waitsOk T29.2 B29 = true := by kernel_rfl
theorem cut_cap36 (A : Option Addr) (n c k : Nat) (hk : k ≤ c) : ∀ W : World, (Instr.slice 36 (.slice A n c) none (some (.int .i64 (k : Int))) (some (.int .i64 (k : Int)))).run Try.prog W = .ok (.slice A k k) W := by
  intro W
  obtain ⟨i0, hi, hzz⟩ := Option.map_eq_some_iff.1 info35
  simp only [Prod.mk.injEq] at hzz
  have hel : Try.prog.elem 36 = 35 := by simp [Program.elem, Try.underlying36]
  have hu : Try.prog.underlying 36 = some (.slice (Try.prog.elem 36)) := by rw [hel]; exact Try.underlying36
  have ha : (A.map fun x => x.add 0) = A := by cases A <;> simp [Addr.add]
  rw [run_slice_hm W 36 A n c hu .i64 .i64 (k : Int) (k : Int) (by omega) (by omega) (by omega), hel]
  simp [sizeOf, typeInfo, hi, hzz, sliced, Result.andThen, ha]
theorem cut_low36 (A : Option Addr) (n c k : Nat) (hk : k ≤ n) : ∀ W : World, (Instr.slice 36 (.slice A n c) (some (.int .i64 (k : Int))) none none).run Try.prog W = .ok (.slice (if c = k then A else A.map (·.add (k * 3))) (n - k) (c - k)) W := by
  intro W
  obtain ⟨i0, hi, hzz⟩ := Option.map_eq_some_iff.1 info35
  simp only [Prod.mk.injEq] at hzz
  have hel : Try.prog.elem 36 = 35 := by simp [Program.elem, Try.underlying36]
  have hu : Try.prog.underlying 36 = some (.slice (Try.prog.elem 36)) := by rw [hel]; exact Try.underlying36
  rw [run_slice_l W 36 A n c hu .i64 (k : Int) (by omega) (by omega), hel]
  simp [sizeOf, typeInfo, hi, hzz, sliced, Result.andThen]
theorem cmp3_lt (a b : Int) : (cmp3 a b < 0 ↔ a < b) ∧ (cmp3 a b = 0 ↔ a = b) := by
  unfold cmp3
  constructor <;> (split <;> first | omega | (split <;> omega))
theorem lt3_iff (x y : S35) : lt3 x y = true ↔ (x.f0 < y.f0 ∨ (x.f0 = y.f0 ∧ x.f1 < y.f1)) := by
  have h0 := cmp3_lt x.f0 y.f0
  have h1 := cmp3_lt x.f1 y.f1
  unfold lt3 cf
  rw [decide_eq_true_iff]
  split <;> omega
set_option maxHeartbeats 4000000 in
set_option maxRecDepth 1000000 in
theorem merge29_walk (A : Option Addr) (c : Nat) (l : List S35) (w : World) (hr : Kd.C k35 w A l.length l) (hc : l.length ≤ c) (hlen : l.length < 1000) :
    Calls Try.prog 29 #[.slice A l.length c] w fun e w' => ∃ v, e = .returned v ∧ Kd.R k35 35 w' w.heap.size (fun _ => True) v (srt l) ∧ Below w.heap.size w w' := by
  have HR := Aside0.mk hr
  have HC := Aside0.mk hc
  clear hr hc
  go_enter Try.func29, Try.ntmps29
  go_wp2
  go_loopg [3, 8] l.length (fun g1 vo vi wr => ∃ i : Nat, vi = .int .i64 i ∧ i ≤ l.length ∧ l.length ≤ g1 + i ∧ Aside0 (Kd.R k35 35 wr w.heap.size (fun _ => True) vo (srt (l.take i))) ∧ Aside0 (Below w.heap.size w wr))
  case atStart => exact ⟨0, by first | rfl | go_num, Nat.zero_le _, by omega, ⟨Kd.R_nil _ _ _ _ _⟩, ⟨Below.refl _ _⟩⟩
  case round =>
    obtain ⟨i, rfl, hi, hg1, HO, HB⟩ := hrel
    obtain ⟨p, hp⟩ : ∃ p, srt (l.take i) = p := ⟨_, rfl⟩
    rw [hp] at HO
    obtain ⟨Ao, co, rfl, hpc, hpC⟩ := Kd.R_reads HO.out
    have HP := Aside0.mk hpC
    have HCc := Aside0.mk hpc
    clear hpC hpc
    by_cases hlt : i < l.length
    · have hltz : (i : Int) < (l.length : Int) := by omega
      obtain ⟨x, hx⟩ : ∃ x, l.getD i z35 = x := ⟨_, rfl⟩
      have hpl : p.length = i := by rw [← hp, srt_length, List.length_take]; omega
      have HS := Aside0.mk (show srt (l.take (i + 1)) = put p x by rw [List.take_succ_eq_append_getElem hlt, srt_snoc, hp, ← hx, List.getD_eq_getElem?_getD, List.getElem?_eq_getElem hlt]; rfl)
      have HX := Aside0.mk hx
      have HPL := Aside0.mk hpl
      clear hp hx hpl HO
      obtain ⟨ad, rfl, _⟩ := at_T35 HR.out (i : Int) (by omega) (by omega)
      go_wp2
      go_loopg [5] i (fun g2 vk wr2 => ∃ k : Nat, vk = .int .i64 k ∧ k ≤ i ∧ k ≤ g2 ∧ Aside0 (stop p x p.length = stop p x k) ∧ Aside0 (Kd.C k35 wr2 Ao p.length p) ∧ Aside0 (Below w.heap.size w wr2))
      case atStart => exact ⟨i, by rw [HPL.out], Nat.le_refl _, Nat.le_refl _, ⟨by rw [HPL.out]⟩, HP, HB⟩
      case round =>
        clear HP HB
        obtain ⟨k, rfl, hki, hg2, HT, HP, HB⟩ := hrel
        have out : stop p x k = k → Aside0 (p.take k ++ x :: p.drop k = srt (l.take (i + 1))) := fun hs => by
          refine ⟨?_⟩
          rw [HS.out]
          unfold put
          rw [HT.out, hs]
        have OUT := Aside0.mk out
        clear out
        have hw3 := fun n' : Nat => Kd.C_drewN (Kd.C_below HR.out HB.out) n'
        have hl3 : ∀ n' : Nat, (wr.drewN n').cell? (ad.add (i * 3)) = some (.int .i64 x.f0) ∧ (wr.drewN n').cell? ⟨(ad.add (i * 3)).block, (ad.add (i * 3)).off + 1, none⟩ = some (.int .i64 x.f1) := fun n' => by
          obtain ⟨ad', e, h0, h1, h2⟩ := at_T35 (hw3 n') (i : Int) (by omega) (by omega)
          cases e
          simp only [Int.toNat_natCast, rd_T35, HX.out] at h0 h1
          exact ⟨h0, h1⟩
        have l0 := fun n' => (hl3 n').1
        have l1 := fun n' => (hl3 n').2
        clear hw3 hl3
        by_cases hk0 : 0 < k
        rotate_left
        · have hs : Aside0 (stop p x k = k) := ⟨by obtain rfl : k = 0 := (by omega); rfl⟩
          have hk1 : ¬ (0 : Int) < (k : Int) := by omega
          go_wp2_with fail
          go_quiet (fail)
          go_wp2_with fail
          clear hk1 hk0 l0 l1
          have HP := Aside0.mk (Kd.C_drewN HP.out nq)
          have HB := Aside0.mk (pw_below_drewN HB.out nq)
          generalize wr.drewN nq = w4 at HP HB ⊢
          have hkp2 : k ≤ p.length := by have := HPL.out; omega
          have hkc : k ≤ co := Nat.le_trans hkp2 HCc.out
          have hkpz : (k : Int) ≤ (p.length : Int) := by omega
          have hltw : (i : Int) < (l.length : Int) := by omega
          have hcut3 := cut_cap36 Ao p.length co k hkc
          have hcut11 := cut_low36 Ao p.length co k hkp2
          generalize hA11 : (if co = k then Ao else Ao.map (·.add (k * 3))) = A11 at hcut11
          have HA11 := Aside0.mk hA11
          clear hA11
          have hfin := Aside0.mk (OUT.out hs.out).out
          have l012 : w4.drew.cell? (ad.add (i * 3)) = some (.int .i64 x.f0) ∧ w4.drew.cell? ⟨(ad.add (i * 3)).block, (ad.add (i * 3)).off + 1, none⟩ = some (.int .i64 x.f1) ∧ w4.drew.cell? ⟨(ad.add (i * 3)).block, (ad.add (i * 3)).off + 2, none⟩ = some (.string x.f2) := by
            obtain ⟨ad', e, h0, h1, h2⟩ := at_T35 (Kd.C_drew (Kd.C_below HR.out HB.out)) (i : Int) (by omega) (by omega)
            cases e
            simp only [Int.toNat_natCast, rd_T35, HX.out] at h0 h1 h2
            exact ⟨h0, h1, h2⟩
          have HP5 := Aside0.mk (Kd.C_drew HP.out)
          have HB5 := Aside0.mk (below_drew1 HB.out)
          clear HP HB
          refine start_ (n := 15) (S := fun w' => w'.cell? (ad.add (i * 3)) = some (.int .i64 x.f0) ∧ w'.cell? ⟨(ad.add (i * 3)).block, (ad.add (i * 3)).off + 1, none⟩ = some (.int .i64 x.f1) ∧ w'.cell? ⟨(ad.add (i * 3)).block, (ad.add (i * 3)).off + 2, none⟩ = some (.string x.f2)) (ds := [8, 12, 13]) #[false, false, false, false, false, false, false, false, false, false, false, false, false, false, false] (by kernel_rfl) rfl rfl l012 (fun hHeld => ?_)
          refine with_tabW tab29 bits29 (fun HT_ HW_ => ?_)
          generalize w4.drew = w5 at HP5 HB5 hHeld ⊢
          clear l012
          refine pure_ (i := 0) (N := some 59) (v := ?_) (a' := ?_) #[true, false, false, false, false, false, false, false, false, false, false, false, false, false, false] rfl rfl (any_of HT_.out (by kernel_rfl)) (fun _ _ _ h => h) (Or.inl ⟨by rfl, ?_⟩) ?_ ?_
          rotate_left
          · intro w'
            go_simp
            with_reducible rfl
          rotate_left
          · simp only [Act.put, List.setIfInBounds_toArray, List.set_cons_zero, List.set_cons_succ, i64_w, i32_w]
            rfl
          refine pure_ (i := 1) (N := some 60) (v := ?_) (a' := ?_) #[true, true, false, false, false, false, false, false, false, false, false, false, false, false, false] rfl rfl (any_of HT_.out (by kernel_rfl)) (fun _ _ _ h => h) (Or.inl ⟨by rfl, ?_⟩) ?_ ?_
          rotate_left
          · intro w'
            go_simp
            with_reducible rfl
          rotate_left
          · simp only [Act.put, List.setIfInBounds_toArray, List.set_cons_zero, List.set_cons_succ, i64_w, i32_w]
            rfl
          refine pure_ (i := 2) (N := some 61) (v := ?_) (a' := ?_) #[true, true, true, false, false, false, false, false, false, false, false, false, false, false, false] rfl rfl (any_of HT_.out (by kernel_rfl)) (fun _ _ _ h => h) (Or.inl ⟨by rfl, ?_⟩) ?_ ?_
          rotate_left
          · intro w'
            go_simp
            with_reducible rfl
          rotate_left
          · simp only [Act.put, List.setIfInBounds_toArray, List.set_cons_zero, List.set_cons_succ, i64_w, i32_w]
            rfl
          refine pure_ (i := 3) (N := some 62) (v := ?_) (a' := ?_) #[true, true, true, true, false, false, false, false, false, false, false, false, false, false, false] rfl rfl (any_of HT_.out (by kernel_rfl)) (fun _ _ _ h => h) (Or.inl ⟨by rfl, ?_⟩) ?_ ?_
          rotate_left
          · intro w'
            go_simp
            with_reducible rfl
          rotate_left
          · simp only [Act.put, List.setIfInBounds_toArray, List.set_cons_zero, List.set_cons_succ, i64_w, i32_w]
            rfl
          refine pure_ (i := 4) (N := some 63) (v := ?_) (a' := ?_) #[true, true, true, true, true, false, false, false, false, false, false, false, false, false, false] rfl rfl (any_of HT_.out (by kernel_rfl)) (fun _ _ _ h => h) (Or.inl ⟨by rfl, ?_⟩) ?_ ?_
          rotate_left
          · intro w'
            go_simp
            with_reducible rfl
          rotate_left
          · simp only [Act.put, List.setIfInBounds_toArray, List.set_cons_zero, List.set_cons_succ, i64_w, i32_w]
            rfl
          refine pure_ (i := 5) (N := some 64) (v := ?_) (a' := ?_) #[true, true, true, true, true, true, false, false, false, false, false, false, false, false, false] rfl rfl (any_of HT_.out (by kernel_rfl)) (fun _ _ _ h => h) (Or.inl ⟨by rfl, ?_⟩) ?_ ?_
          rotate_left
          · intro w'
            go_simp
            with_reducible rfl
          rotate_left
          · simp only [Act.put, List.setIfInBounds_toArray, List.set_cons_zero, List.set_cons_succ, i64_w, i32_w]
            rfl
          refine pure_ (i := 6) (N := some 65) (v := ?_) (a' := ?_) #[true, true, true, true, true, true, true, false, false, false, false, false, false, false, false] rfl rfl (any_of HT_.out (by kernel_rfl)) (fun _ _ _ h => h) (Or.inl ⟨by rfl, ?_⟩) ?_ ?_
          rotate_left
          · intro w'
            go_simp
            with_reducible rfl
          rotate_left
          · simp only [Act.put, List.setIfInBounds_toArray, List.set_cons_zero, List.set_cons_succ, i64_w, i32_w]
            rfl
          refine pure_ (i := 9) (N := some 68) (v := ?_) (a' := ?_) #[true, true, true, true, true, true, true, false, false, true, false, false, false, false, false] rfl rfl (any_of HT_.out (by kernel_rfl)) (fun _ _ _ h => h) (Or.inl ⟨by rfl, ?_⟩) ?_ ?_
          rotate_left
          · intro w'
            go_simp
            with_reducible rfl
          rotate_left
          · simp only [Act.put, List.setIfInBounds_toArray, List.set_cons_zero, List.set_cons_succ, i64_w, i32_w]
            rfl
          refine pure_ (i := 10) (N := some 69) (v := ?_) (a' := ?_) #[true, true, true, true, true, true, true, false, false, true, true, false, false, false, false] rfl rfl (any_of HT_.out (by kernel_rfl)) (fun _ _ _ h => h) (Or.inl ⟨by rfl, ?_⟩) ?_ ?_
          rotate_left
          · intro w'
            go_simp
            with_reducible rfl
          rotate_left
          · simp only [Act.put, List.setIfInBounds_toArray, List.set_cons_zero, List.set_cons_succ, i64_w, i32_w]
            rfl
          refine pure_ (i := 11) (N := some 70) (v := ?_) (a' := ?_) #[true, true, true, true, true, true, true, false, false, true, true, true, false, false, false] rfl rfl (any_of HT_.out (by kernel_rfl)) (fun _ _ _ h => h) (Or.inl ⟨by rfl, ?_⟩) ?_ ?_
          rotate_left
          · intro w'
            go_simp
            with_reducible rfl
          rotate_left
          · simp only [Act.put, List.setIfInBounds_toArray, List.set_cons_zero, List.set_cons_succ, i64_w, i32_w]
            rfl
          refine take_ (i := 7) (N := some 66) (v := ?_) (a' := ?_) #[true, true, true, true, true, true, true, true, false, true, true, true, false, false, false] rfl rfl (take_ofW HT_.out HW_.out (by kernel_rfl)) (fun _ _ _ h => h) (Or.inl ⟨by rfl, ?_⟩) hHeld ?_ ?_
          rotate_left
          · rintro w' ⟨s0, s1, s2⟩
            go_simp
            with_reducible rfl
          rotate_left
          · simp only [Act.put, List.setIfInBounds_toArray, List.set_cons_zero, List.set_cons_succ, i64_w, i32_w]
            rfl
          refine last_ (i := 8) (N := some 67) #[true, true, true, true, true, true, true, true, true, true, true, true, false, false, false] rfl rfl (one_of HT_.out (by kernel_rfl)) (by decide) (fun K hK => ?_)
          refine value_ (v := .slice (some ⟨w5.heap.size, 0, none⟩) 1 1) (w1 := w5.alloc (.cells #[.int .i64 x.f0, .int .i64 x.f1, .string x.f2] 35)) (by rfl) rfl (by go_simp) ?_
          refine hK.out _ _ ?_
          clear hK K
          refine norm_ (a' := ?_) ?_ ?_
          rotate_left
          · show Act.put _ _ _ = _
            simp only [Act.put, List.setIfInBounds_toArray, List.set_cons_zero, List.set_cons_succ, i64_w, i32_w]
            rfl
          have HX := Aside0.mk (one_row w5 x)
          have HB6 := Aside0.mk (below_alloc (Below.refl w5.heap.size w5) (.cells #[.int .i64 x.f0, .int .i64 x.f1, .string x.f2] 35))
          generalize Value.slice (some ⟨w5.heap.size, 0, none⟩) 1 1 = vx at HX ⊢
          generalize w5.alloc (.cells #[.int .i64 x.f0, .int .i64 x.f1, .string x.f2] 35) = w6 at HX HB6 ⊢
          refine last_ (i := 12) (N := some 71) #[true, true, true, true, true, true, true, true, true, true, true, true, true, false, false] rfl rfl (one_of HT_.out (by kernel_rfl)) (by decide) (fun K hK => ?_)
          refine Kd.R_append_rows_step k35 (w0 := w5) w5.heap.size (by rfl) (.tmp 67) (.tmp 70) 36 35 (.agg #[(.int .i64 0), (.int .i64 0), (.string ⟨#[]⟩)]) 32 rfl Try.underlying36 info35 rfl (by decide) (by omega) vx [x] (p.drop k) _ _ _ (fun _ => True) (fun _ => False) rfl rfl ?aO ?aR (fun _ _ h => h) (fun _ h => h.elim) ?aF ?aB ?aS ?aL ?_
          (case aO => exact HX.out)
          (case aR => have h_ := Kd.C_drop (Kd.C_below HP5.out HB6.out) hkp2 HCc.out; rw [List.length_drop] at h_; have h2_ := HA11.out; rw [show k35.sz = 3 from rfl, h2_] at h_; exact h_)
          (case aF => exact fun _ _ => trivial)
          (case aB => exact HB6.out)
          (case aS => exact HB6.out.size)
          (case aL => have := HPL.out; simp only [List.length_singleton]; omega)
          intro v7 w7 ho7 hb7 hg7 hat7
          refine hK.out _ _ ?_
          clear hK K
          refine norm_ (a' := ?_) ?_ ?_
          rotate_left
          · show Act.put _ _ _ = _
            simp only [Act.put, List.setIfInBounds_toArray, List.set_cons_zero, List.set_cons_succ, i64_w, i32_w]
            rfl
          have HP7 := Aside0.mk (Kd.C_below HP5.out hb7)
          have HB7 := Aside0.mk (below_step HB5.out hb7)
          obtain ⟨A7, c7, rfl, hl7, hc7⟩ := Kd.R_reads ho7
          have HC7 := Aside0.mk hc7
          clear ho7 hb7 hg7 hat7 hc7 HP5 HB5 HB6 HX
          refine last_ (i := 13) (N := some 72) #[true, true, true, true, true, true, true, true, true, true, true, true, true, true, false] rfl rfl (one_of HT_.out (by kernel_rfl)) (by decide) (fun K hK => ?_)
          refine grow_step (w0 := w) (by rfl) (.tmp 62) (.tmp 71) rfl Ao A7 k c7 (p.take k) ([x] ++ p.drop k) rfl rfl (by rw [List.length_take]; omega) ?bC HC7.out (by rw [List.length_append]; simp only [List.length_singleton]; omega) HB7.out (by have := HPL.out; simp only [List.length_append, List.length_take, List.length_drop, List.length_singleton]; omega) ?_
          (case bC => have h_ := Kd.C_take HP7.out hkp2; rwa [List.length_take, Nat.min_eq_left hkp2] at h_)
          intro v8 w8 ho8 hb8
          refine hK.out _ _ ?_
          clear hK K
          refine norm_ (a' := ?_) ?_ ?_
          rotate_left
          · show Act.put _ _ _ = _
            simp only [Act.put, List.setIfInBounds_toArray, List.set_cons_zero, List.set_cons_succ, i64_w, i32_w]
            rfl
          have HO8 := Aside0.mk ho8
          have HB8 := Aside0.mk hb8
          clear ho8 hb8 HB7 HC7 HP7
          refine pure_ (i := 14) (N := some 3) (v := ?_) (a' := ?_) #[true, true, true, true, true, true, true, true, true, true, true, true, true, true, true] rfl rfl (any_of HT_.out (by kernel_rfl)) (fun _ _ _ h => h) (Or.inl ⟨by rfl, ?_⟩) ?_ ?_
          rotate_left
          · intro w'
            go_simp
            with_reducible rfl
          rotate_left
          · simp only [Act.put, List.setIfInBounds_toArray, List.set_cons_zero, List.set_cons_succ, i64_w, i32_w]
            rfl
          refine done_ (done_of HT_.out (by kernel_rfl)) ?_
          go_wp2
          go_roundg (l.length - (i + 1))
          case measure => omega
          case rel => exact ⟨i + 1, by first | rfl | go_num, by omega, by omega, ⟨by rw [← hfin.out]; have h_ := HO8.out; rwa [List.singleton_append] at h_⟩, HB8⟩
        obtain ⟨kp, rfl⟩ : ∃ kp, k = kp + 1 := ⟨k - 1, by omega⟩
        have hkp : kp < p.length := by have := HPL.out; omega
        obtain ⟨xp, hxp⟩ : ∃ xp, p.getD kp z35 = xp := ⟨_, rfl⟩
        obtain ⟨ao, rfl, _⟩ := at_T35 HP.out (kp : Int) (by omega) (by omega)
        have ho3 : ∀ n' : Nat, (wr.drewN n').cell? (ao.add (kp * 3)) = some (.int .i64 xp.f0) ∧ (wr.drewN n').cell? ⟨(ao.add (kp * 3)).block, (ao.add (kp * 3)).off + 1, none⟩ = some (.int .i64 xp.f1) := fun n' => by
          obtain ⟨ad', e, h0, h1, h2⟩ := at_T35 (Kd.C_drewN HP.out n') (kp : Int) (by omega) (by omega)
          cases e
          simp only [Int.toNat_natCast, rd_T35, hxp] at h0 h1
          exact ⟨h0, h1⟩
        have o0 := fun n' => (ho3 n').1
        have o1 := fun n' => (ho3 n').2
        have HXP := Aside0.mk hxp
        have hwp : IntKind.i64.wrap (kp : Int) = (kp : Int) := by rw [IntKind.wrap_i64]; omega
        have hkpz : (kp : Int) < (p.length : Int) := by omega
        have hkp0 : (0 : Int) < (kp : Int) + 1 := by omega
        have HST := Aside0.mk (show stop p x (kp + 1) = if lt3 x xp then stop p x kp else kp + 1 by rw [← hxp]; rfl)
        clear ho3 hxp
        have hcase : x.f0 < xp.f0 ∨ (x.f0 = xp.f0 ∧ x.f1 < xp.f1) ∨ (x.f0 = xp.f0 ∧ ¬ x.f1 < xp.f1) ∨ xp.f0 < x.f0 := by omega
        rcases hcase with c1 | c1 | c1 | c1
        · have HL := Aside0.mk ((lt3_iff x xp).2 (.inl c1))
          go_wp2_with fail
          go_quiet (fail)
          go_wp2
          go_roundg kp
          case measure => omega
          case rel => exact ⟨kp, by first | rfl | go_num, by omega, Nat.le_refl _, ⟨by rw [HT.out, HST.out, HL.out]; rfl⟩, ⟨Kd.C_drewN HP.out _⟩, ⟨pw_below_drewN HB.out _⟩⟩
        · have HL := Aside0.mk ((lt3_iff x xp).2 (.inr c1))
          obtain ⟨c2, c3⟩ := c1
          have c4 : ¬ x.f0 < xp.f0 := by omega
          have c5 : (xp.f0 == x.f0) = true := beq_iff_eq.2 c2.symm
          have C2 := Aside0.mk c2
          clear c2
          go_wp2_with fail
          go_quiet (fail)
          go_wp2
          go_roundg kp
          case measure => omega
          case rel => exact ⟨kp, by first | rfl | go_num, by omega, Nat.le_refl _, ⟨by rw [HT.out, HST.out, HL.out]; rfl⟩, ⟨Kd.C_drewN HP.out _⟩, ⟨pw_below_drewN HB.out _⟩⟩
        · have hs : Aside0 (stop p x (kp + 1) = kp + 1) := ⟨by rw [HST.out, if_neg (by rw [lt3_iff]; omega)]⟩
          obtain ⟨c2, c3⟩ := c1
          have c4 : ¬ x.f0 < xp.f0 := by omega
          have c5 : (xp.f0 == x.f0) = true := beq_iff_eq.2 c2.symm
          have C2 := Aside0.mk c2
          clear c2
          go_wp2_with fail
          go_quiet (fail)
          go_wp2_with fail
          clear c3 c4 c5 C2
          clear HXP HST o0 o1 l0 l1 hwp hkpz hkp0 hkp hk0
          (try rw [show ((kp : Int) + 1) = ((kp + 1 : Nat) : Int) from by omega])
          generalize kp + 1 = k at hs OUT HT hki hg2 ⊢
          generalize some ao = Ao at HP ⊢
          have HP := Aside0.mk (Kd.C_drewN HP.out nq)
          have HB := Aside0.mk (pw_below_drewN HB.out nq)
          generalize wr.drewN nq = w4 at HP HB ⊢
          have hkp2 : k ≤ p.length := by have := HPL.out; omega
          have hkc : k ≤ co := Nat.le_trans hkp2 HCc.out
          have hkpz : (k : Int) ≤ (p.length : Int) := by omega
          have hltw : (i : Int) < (l.length : Int) := by omega
          have hcut3 := cut_cap36 Ao p.length co k hkc
          have hcut11 := cut_low36 Ao p.length co k hkp2
          generalize hA11 : (if co = k then Ao else Ao.map (·.add (k * 3))) = A11 at hcut11
          have HA11 := Aside0.mk hA11
          clear hA11
          have hfin := Aside0.mk (OUT.out hs.out).out
          have l012 : w4.drew.cell? (ad.add (i * 3)) = some (.int .i64 x.f0) ∧ w4.drew.cell? ⟨(ad.add (i * 3)).block, (ad.add (i * 3)).off + 1, none⟩ = some (.int .i64 x.f1) ∧ w4.drew.cell? ⟨(ad.add (i * 3)).block, (ad.add (i * 3)).off + 2, none⟩ = some (.string x.f2) := by
            obtain ⟨ad', e, h0, h1, h2⟩ := at_T35 (Kd.C_drew (Kd.C_below HR.out HB.out)) (i : Int) (by omega) (by omega)
            cases e
            simp only [Int.toNat_natCast, rd_T35, HX.out] at h0 h1 h2
            exact ⟨h0, h1, h2⟩
          have HP5 := Aside0.mk (Kd.C_drew HP.out)
          have HB5 := Aside0.mk (below_drew1 HB.out)
          clear HP HB
          refine start_ (n := 15) (S := fun w' => w'.cell? (ad.add (i * 3)) = some (.int .i64 x.f0) ∧ w'.cell? ⟨(ad.add (i * 3)).block, (ad.add (i * 3)).off + 1, none⟩ = some (.int .i64 x.f1) ∧ w'.cell? ⟨(ad.add (i * 3)).block, (ad.add (i * 3)).off + 2, none⟩ = some (.string x.f2)) (ds := [8, 12, 13]) #[false, false, false, false, false, false, false, false, false, false, false, false, false, false, false] (by kernel_rfl) rfl rfl l012 (fun hHeld => ?_)
          refine with_tabW tab29 bits29 (fun HT_ HW_ => ?_)
          generalize w4.drew = w5 at HP5 HB5 hHeld ⊢
          clear l012
          refine pure_ (i := 0) (N := some 59) (v := ?_) (a' := ?_) #[true, false, false, false, false, false, false, false, false, false, false, false, false, false, false] rfl rfl (any_of HT_.out (by kernel_rfl)) (fun _ _ _ h => h) (Or.inl ⟨by rfl, ?_⟩) ?_ ?_
          rotate_left
          · intro w'
            go_simp
            with_reducible rfl
          rotate_left
          · simp only [Act.put, List.setIfInBounds_toArray, List.set_cons_zero, List.set_cons_succ, i64_w, i32_w]
            rfl
          refine pure_ (i := 1) (N := some 60) (v := ?_) (a' := ?_) #[true, true, false, false, false, false, false, false, false, false, false, false, false, false, false] rfl rfl (any_of HT_.out (by kernel_rfl)) (fun _ _ _ h => h) (Or.inl ⟨by rfl, ?_⟩) ?_ ?_
          rotate_left
          · intro w'
            go_simp
            with_reducible rfl
          rotate_left
          · simp only [Act.put, List.setIfInBounds_toArray, List.set_cons_zero, List.set_cons_succ, i64_w, i32_w]
            rfl
          refine pure_ (i := 2) (N := some 61) (v := ?_) (a' := ?_) #[true, true, true, false, false, false, false, false, false, false, false, false, false, false, false] rfl rfl (any_of HT_.out (by kernel_rfl)) (fun _ _ _ h => h) (Or.inl ⟨by rfl, ?_⟩) ?_ ?_
          rotate_left
          · intro w'
            go_simp
            with_reducible rfl
          rotate_left
          · simp only [Act.put, List.setIfInBounds_toArray, List.set_cons_zero, List.set_cons_succ, i64_w, i32_w]
            rfl
          refine pure_ (i := 3) (N := some 62) (v := ?_) (a' := ?_) #[true, true, true, true, false, false, false, false, false, false, false, false, false, false, false] rfl rfl (any_of HT_.out (by kernel_rfl)) (fun _ _ _ h => h) (Or.inl ⟨by rfl, ?_⟩) ?_ ?_
          rotate_left
          · intro w'
            go_simp
            with_reducible rfl
          rotate_left
          · simp only [Act.put, List.setIfInBounds_toArray, List.set_cons_zero, List.set_cons_succ, i64_w, i32_w]
            rfl
          refine pure_ (i := 4) (N := some 63) (v := ?_) (a' := ?_) #[true, true, true, true, true, false, false, false, false, false, false, false, false, false, false] rfl rfl (any_of HT_.out (by kernel_rfl)) (fun _ _ _ h => h) (Or.inl ⟨by rfl, ?_⟩) ?_ ?_
          rotate_left
          · intro w'
            go_simp
            with_reducible rfl
          rotate_left
          · simp only [Act.put, List.setIfInBounds_toArray, List.set_cons_zero, List.set_cons_succ, i64_w, i32_w]
            rfl
          refine pure_ (i := 5) (N := some 64) (v := ?_) (a' := ?_) #[true, true, true, true, true, true, false, false, false, false, false, false, false, false, false] rfl rfl (any_of HT_.out (by kernel_rfl)) (fun _ _ _ h => h) (Or.inl ⟨by rfl, ?_⟩) ?_ ?_
          rotate_left
          · intro w'
            go_simp
            with_reducible rfl
          rotate_left
          · simp only [Act.put, List.setIfInBounds_toArray, List.set_cons_zero, List.set_cons_succ, i64_w, i32_w]
            rfl
          refine pure_ (i := 6) (N := some 65) (v := ?_) (a' := ?_) #[true, true, true, true, true, true, true, false, false, false, false, false, false, false, false] rfl rfl (any_of HT_.out (by kernel_rfl)) (fun _ _ _ h => h) (Or.inl ⟨by rfl, ?_⟩) ?_ ?_
          rotate_left
          · intro w'
            go_simp
            with_reducible rfl
          rotate_left
          · simp only [Act.put, List.setIfInBounds_toArray, List.set_cons_zero, List.set_cons_succ, i64_w, i32_w]
            rfl
          refine pure_ (i := 9) (N := some 68) (v := ?_) (a' := ?_) #[true, true, true, true, true, true, true, false, false, true, false, false, false, false, false] rfl rfl (any_of HT_.out (by kernel_rfl)) (fun _ _ _ h => h) (Or.inl ⟨by rfl, ?_⟩) ?_ ?_
          rotate_left
          · intro w'
            go_simp
            with_reducible rfl
          rotate_left
          · simp only [Act.put, List.setIfInBounds_toArray, List.set_cons_zero, List.set_cons_succ, i64_w, i32_w]
            rfl
          refine pure_ (i := 10) (N := some 69) (v := ?_) (a' := ?_) #[true, true, true, true, true, true, true, false, false, true, true, false, false, false, false] rfl rfl (any_of HT_.out (by kernel_rfl)) (fun _ _ _ h => h) (Or.inl ⟨by rfl, ?_⟩) ?_ ?_
          rotate_left
          · intro w'
            go_simp
            with_reducible rfl
          rotate_left
          · simp only [Act.put, List.setIfInBounds_toArray, List.set_cons_zero, List.set_cons_succ, i64_w, i32_w]
            rfl
          refine pure_ (i := 11) (N := some 70) (v := ?_) (a' := ?_) #[true, true, true, true, true, true, true, false, false, true, true, true, false, false, false] rfl rfl (any_of HT_.out (by kernel_rfl)) (fun _ _ _ h => h) (Or.inl ⟨by rfl, ?_⟩) ?_ ?_
          rotate_left
          · intro w'
            go_simp
            with_reducible rfl
          rotate_left
          · simp only [Act.put, List.setIfInBounds_toArray, List.set_cons_zero, List.set_cons_succ, i64_w, i32_w]
            rfl
          refine take_ (i := 7) (N := some 66) (v := ?_) (a' := ?_) #[true, true, true, true, true, true, true, true, false, true, true, true, false, false, false] rfl rfl (take_ofW HT_.out HW_.out (by kernel_rfl)) (fun _ _ _ h => h) (Or.inl ⟨by rfl, ?_⟩) hHeld ?_ ?_
          rotate_left
          · rintro w' ⟨s0, s1, s2⟩
            go_simp
            with_reducible rfl
          rotate_left
          · simp only [Act.put, List.setIfInBounds_toArray, List.set_cons_zero, List.set_cons_succ, i64_w, i32_w]
            rfl
          refine last_ (i := 8) (N := some 67) #[true, true, true, true, true, true, true, true, true, true, true, true, false, false, false] rfl rfl (one_of HT_.out (by kernel_rfl)) (by decide) (fun K hK => ?_)
          refine value_ (v := .slice (some ⟨w5.heap.size, 0, none⟩) 1 1) (w1 := w5.alloc (.cells #[.int .i64 x.f0, .int .i64 x.f1, .string x.f2] 35)) (by rfl) rfl (by go_simp) ?_
          refine hK.out _ _ ?_
          clear hK K
          refine norm_ (a' := ?_) ?_ ?_
          rotate_left
          · show Act.put _ _ _ = _
            simp only [Act.put, List.setIfInBounds_toArray, List.set_cons_zero, List.set_cons_succ, i64_w, i32_w]
            rfl
          have HX := Aside0.mk (one_row w5 x)
          have HB6 := Aside0.mk (below_alloc (Below.refl w5.heap.size w5) (.cells #[.int .i64 x.f0, .int .i64 x.f1, .string x.f2] 35))
          generalize Value.slice (some ⟨w5.heap.size, 0, none⟩) 1 1 = vx at HX ⊢
          generalize w5.alloc (.cells #[.int .i64 x.f0, .int .i64 x.f1, .string x.f2] 35) = w6 at HX HB6 ⊢
          refine last_ (i := 12) (N := some 71) #[true, true, true, true, true, true, true, true, true, true, true, true, true, false, false] rfl rfl (one_of HT_.out (by kernel_rfl)) (by decide) (fun K hK => ?_)
          refine Kd.R_append_rows_step k35 (w0 := w5) w5.heap.size (by rfl) (.tmp 67) (.tmp 70) 36 35 (.agg #[(.int .i64 0), (.int .i64 0), (.string ⟨#[]⟩)]) 32 rfl Try.underlying36 info35 rfl (by decide) (by omega) vx [x] (p.drop k) _ _ _ (fun _ => True) (fun _ => False) rfl rfl ?aO ?aR (fun _ _ h => h) (fun _ h => h.elim) ?aF ?aB ?aS ?aL ?_
          (case aO => exact HX.out)
          (case aR => have h_ := Kd.C_drop (Kd.C_below HP5.out HB6.out) hkp2 HCc.out; rw [List.length_drop] at h_; have h2_ := HA11.out; rw [show k35.sz = 3 from rfl, h2_] at h_; exact h_)
          (case aF => exact fun _ _ => trivial)
          (case aB => exact HB6.out)
          (case aS => exact HB6.out.size)
          (case aL => have := HPL.out; simp only [List.length_singleton]; omega)
          intro v7 w7 ho7 hb7 hg7 hat7
          refine hK.out _ _ ?_
          clear hK K
          refine norm_ (a' := ?_) ?_ ?_
          rotate_left
          · show Act.put _ _ _ = _
            simp only [Act.put, List.setIfInBounds_toArray, List.set_cons_zero, List.set_cons_succ, i64_w, i32_w]
            rfl
          have HP7 := Aside0.mk (Kd.C_below HP5.out hb7)
          have HB7 := Aside0.mk (below_step HB5.out hb7)
          obtain ⟨A7, c7, rfl, hl7, hc7⟩ := Kd.R_reads ho7
          have HC7 := Aside0.mk hc7
          clear ho7 hb7 hg7 hat7 hc7 HP5 HB5 HB6 HX
          refine last_ (i := 13) (N := some 72) #[true, true, true, true, true, true, true, true, true, true, true, true, true, true, false] rfl rfl (one_of HT_.out (by kernel_rfl)) (by decide) (fun K hK => ?_)
          refine grow_step (w0 := w) (by rfl) (.tmp 62) (.tmp 71) rfl Ao A7 k c7 (p.take k) ([x] ++ p.drop k) rfl rfl (by rw [List.length_take]; omega) ?bC HC7.out (by rw [List.length_append]; simp only [List.length_singleton]; omega) HB7.out (by have := HPL.out; simp only [List.length_append, List.length_take, List.length_drop, List.length_singleton]; omega) ?_
          (case bC => have h_ := Kd.C_take HP7.out hkp2; rwa [List.length_take, Nat.min_eq_left hkp2] at h_)
          intro v8 w8 ho8 hb8
          refine hK.out _ _ ?_
          clear hK K
          refine norm_ (a' := ?_) ?_ ?_
          rotate_left
          · show Act.put _ _ _ = _
            simp only [Act.put, List.setIfInBounds_toArray, List.set_cons_zero, List.set_cons_succ, i64_w, i32_w]
            rfl
          have HO8 := Aside0.mk ho8
          have HB8 := Aside0.mk hb8
          clear ho8 hb8 HB7 HC7 HP7
          refine pure_ (i := 14) (N := some 3) (v := ?_) (a' := ?_) #[true, true, true, true, true, true, true, true, true, true, true, true, true, true, true] rfl rfl (any_of HT_.out (by kernel_rfl)) (fun _ _ _ h => h) (Or.inl ⟨by rfl, ?_⟩) ?_ ?_
          rotate_left
          · intro w'
            go_simp
            with_reducible rfl
          rotate_left
          · simp only [Act.put, List.setIfInBounds_toArray, List.set_cons_zero, List.set_cons_succ, i64_w, i32_w]
            rfl
          refine done_ (done_of HT_.out (by kernel_rfl)) ?_
          go_wp2
          go_roundg (l.length - (i + 1))
          case measure => omega
          case rel => exact ⟨i + 1, by first | rfl | go_num, by omega, by omega, ⟨by rw [← hfin.out]; have h_ := HO8.out; rwa [List.singleton_append] at h_⟩, HB8⟩
        · have hs : Aside0 (stop p x (kp + 1) = kp + 1) := ⟨by rw [HST.out, if_neg (by rw [lt3_iff]; omega)]⟩
          have c4 : ¬ x.f0 < xp.f0 := by omega
          have c5 : (xp.f0 == x.f0) = false := beq_eq_false_iff_ne.2 (by omega)
          have c6 : decide (xp.f0 = x.f0) = false := decide_eq_false (by omega)
          have c7 : decide (x.f0 < xp.f0) = false := decide_eq_false (by omega)
          go_wp2_with fail
          go_quiet (fail)
          go_wp2_with fail
          clear c1 c4 c5 c6 c7
          clear HXP HST o0 o1 l0 l1 hwp hkpz hkp0 hkp hk0
          (try rw [show ((kp : Int) + 1) = ((kp + 1 : Nat) : Int) from by omega])
          generalize kp + 1 = k at hs OUT HT hki hg2 ⊢
          generalize some ao = Ao at HP ⊢
          have HP := Aside0.mk (Kd.C_drewN HP.out nq)
          have HB := Aside0.mk (pw_below_drewN HB.out nq)
          generalize wr.drewN nq = w4 at HP HB ⊢
          have hkp2 : k ≤ p.length := by have := HPL.out; omega
          have hkc : k ≤ co := Nat.le_trans hkp2 HCc.out
          have hkpz : (k : Int) ≤ (p.length : Int) := by omega
          have hltw : (i : Int) < (l.length : Int) := by omega
          have hcut3 := cut_cap36 Ao p.length co k hkc
          have hcut11 := cut_low36 Ao p.length co k hkp2
          generalize hA11 : (if co = k then Ao else Ao.map (·.add (k * 3))) = A11 at hcut11
          have HA11 := Aside0.mk hA11
          clear hA11
          have hfin := Aside0.mk (OUT.out hs.out).out
          have l012 : w4.drew.cell? (ad.add (i * 3)) = some (.int .i64 x.f0) ∧ w4.drew.cell? ⟨(ad.add (i * 3)).block, (ad.add (i * 3)).off + 1, none⟩ = some (.int .i64 x.f1) ∧ w4.drew.cell? ⟨(ad.add (i * 3)).block, (ad.add (i * 3)).off + 2, none⟩ = some (.string x.f2) := by
            obtain ⟨ad', e, h0, h1, h2⟩ := at_T35 (Kd.C_drew (Kd.C_below HR.out HB.out)) (i : Int) (by omega) (by omega)
            cases e
            simp only [Int.toNat_natCast, rd_T35, HX.out] at h0 h1 h2
            exact ⟨h0, h1, h2⟩
          have HP5 := Aside0.mk (Kd.C_drew HP.out)
          have HB5 := Aside0.mk (below_drew1 HB.out)
          clear HP HB
          refine start_ (n := 15) (S := fun w' => w'.cell? (ad.add (i * 3)) = some (.int .i64 x.f0) ∧ w'.cell? ⟨(ad.add (i * 3)).block, (ad.add (i * 3)).off + 1, none⟩ = some (.int .i64 x.f1) ∧ w'.cell? ⟨(ad.add (i * 3)).block, (ad.add (i * 3)).off + 2, none⟩ = some (.string x.f2)) (ds := [8, 12, 13]) #[false, false, false, false, false, false, false, false, false, false, false, false, false, false, false] (by kernel_rfl) rfl rfl l012 (fun hHeld => ?_)
          refine with_tabW tab29 bits29 (fun HT_ HW_ => ?_)
          generalize w4.drew = w5 at HP5 HB5 hHeld ⊢
          clear l012
          refine pure_ (i := 0) (N := some 59) (v := ?_) (a' := ?_) #[true, false, false, false, false, false, false, false, false, false, false, false, false, false, false] rfl rfl (any_of HT_.out (by kernel_rfl)) (fun _ _ _ h => h) (Or.inl ⟨by rfl, ?_⟩) ?_ ?_
          rotate_left
          · intro w'
            go_simp
            with_reducible rfl
          rotate_left
          · simp only [Act.put, List.setIfInBounds_toArray, List.set_cons_zero, List.set_cons_succ, i64_w, i32_w]
            rfl
          refine pure_ (i := 1) (N := some 60) (v := ?_) (a' := ?_) #[true, true, false, false, false, false, false, false, false, false, false, false, false, false, false] rfl rfl (any_of HT_.out (by kernel_rfl)) (fun _ _ _ h => h) (Or.inl ⟨by rfl, ?_⟩) ?_ ?_
          rotate_left
          · intro w'
            go_simp
            with_reducible rfl
          rotate_left
          · simp only [Act.put, List.setIfInBounds_toArray, List.set_cons_zero, List.set_cons_succ, i64_w, i32_w]
            rfl
          refine pure_ (i := 2) (N := some 61) (v := ?_) (a' := ?_) #[true, true, true, false, false, false, false, false, false, false, false, false, false, false, false] rfl rfl (any_of HT_.out (by kernel_rfl)) (fun _ _ _ h => h) (Or.inl ⟨by rfl, ?_⟩) ?_ ?_
          rotate_left
          · intro w'
            go_simp
            with_reducible rfl
          rotate_left
          · simp only [Act.put, List.setIfInBounds_toArray, List.set_cons_zero, List.set_cons_succ, i64_w, i32_w]
            rfl
          refine pure_ (i := 3) (N := some 62) (v := ?_) (a' := ?_) #[true, true, true, true, false, false, false, false, false, false, false, false, false, false, false] rfl rfl (any_of HT_.out (by kernel_rfl)) (fun _ _ _ h => h) (Or.inl ⟨by rfl, ?_⟩) ?_ ?_
          rotate_left
          · intro w'
            go_simp
            with_reducible rfl
          rotate_left
          · simp only [Act.put, List.setIfInBounds_toArray, List.set_cons_zero, List.set_cons_succ, i64_w, i32_w]
            rfl
          refine pure_ (i := 4) (N := some 63) (v := ?_) (a' := ?_) #[true, true, true, true, true, false, false, false, false, false, false, false, false, false, false] rfl rfl (any_of HT_.out (by kernel_rfl)) (fun _ _ _ h => h) (Or.inl ⟨by rfl, ?_⟩) ?_ ?_
          rotate_left
          · intro w'
            go_simp
            with_reducible rfl
          rotate_left
          · simp only [Act.put, List.setIfInBounds_toArray, List.set_cons_zero, List.set_cons_succ, i64_w, i32_w]
            rfl
          refine pure_ (i := 5) (N := some 64) (v := ?_) (a' := ?_) #[true, true, true, true, true, true, false, false, false, false, false, false, false, false, false] rfl rfl (any_of HT_.out (by kernel_rfl)) (fun _ _ _ h => h) (Or.inl ⟨by rfl, ?_⟩) ?_ ?_
          rotate_left
          · intro w'
            go_simp
            with_reducible rfl
          rotate_left
          · simp only [Act.put, List.setIfInBounds_toArray, List.set_cons_zero, List.set_cons_succ, i64_w, i32_w]
            rfl
          refine pure_ (i := 6) (N := some 65) (v := ?_) (a' := ?_) #[true, true, true, true, true, true, true, false, false, false, false, false, false, false, false] rfl rfl (any_of HT_.out (by kernel_rfl)) (fun _ _ _ h => h) (Or.inl ⟨by rfl, ?_⟩) ?_ ?_
          rotate_left
          · intro w'
            go_simp
            with_reducible rfl
          rotate_left
          · simp only [Act.put, List.setIfInBounds_toArray, List.set_cons_zero, List.set_cons_succ, i64_w, i32_w]
            rfl
          refine pure_ (i := 9) (N := some 68) (v := ?_) (a' := ?_) #[true, true, true, true, true, true, true, false, false, true, false, false, false, false, false] rfl rfl (any_of HT_.out (by kernel_rfl)) (fun _ _ _ h => h) (Or.inl ⟨by rfl, ?_⟩) ?_ ?_
          rotate_left
          · intro w'
            go_simp
            with_reducible rfl
          rotate_left
          · simp only [Act.put, List.setIfInBounds_toArray, List.set_cons_zero, List.set_cons_succ, i64_w, i32_w]
            rfl
          refine pure_ (i := 10) (N := some 69) (v := ?_) (a' := ?_) #[true, true, true, true, true, true, true, false, false, true, true, false, false, false, false] rfl rfl (any_of HT_.out (by kernel_rfl)) (fun _ _ _ h => h) (Or.inl ⟨by rfl, ?_⟩) ?_ ?_
          rotate_left
          · intro w'
            go_simp
            with_reducible rfl
          rotate_left
          · simp only [Act.put, List.setIfInBounds_toArray, List.set_cons_zero, List.set_cons_succ, i64_w, i32_w]
            rfl
          refine pure_ (i := 11) (N := some 70) (v := ?_) (a' := ?_) #[true, true, true, true, true, true, true, false, false, true, true, true, false, false, false] rfl rfl (any_of HT_.out (by kernel_rfl)) (fun _ _ _ h => h) (Or.inl ⟨by rfl, ?_⟩) ?_ ?_
          rotate_left
          · intro w'
            go_simp
            with_reducible rfl
          rotate_left
          · simp only [Act.put, List.setIfInBounds_toArray, List.set_cons_zero, List.set_cons_succ, i64_w, i32_w]
            rfl
          refine take_ (i := 7) (N := some 66) (v := ?_) (a' := ?_) #[true, true, true, true, true, true, true, true, false, true, true, true, false, false, false] rfl rfl (take_ofW HT_.out HW_.out (by kernel_rfl)) (fun _ _ _ h => h) (Or.inl ⟨by rfl, ?_⟩) hHeld ?_ ?_
          rotate_left
          · rintro w' ⟨s0, s1, s2⟩
            go_simp
            with_reducible rfl
          rotate_left
          · simp only [Act.put, List.setIfInBounds_toArray, List.set_cons_zero, List.set_cons_succ, i64_w, i32_w]
            rfl
          refine last_ (i := 8) (N := some 67) #[true, true, true, true, true, true, true, true, true, true, true, true, false, false, false] rfl rfl (one_of HT_.out (by kernel_rfl)) (by decide) (fun K hK => ?_)
          refine value_ (v := .slice (some ⟨w5.heap.size, 0, none⟩) 1 1) (w1 := w5.alloc (.cells #[.int .i64 x.f0, .int .i64 x.f1, .string x.f2] 35)) (by rfl) rfl (by go_simp) ?_
          refine hK.out _ _ ?_
          clear hK K
          refine norm_ (a' := ?_) ?_ ?_
          rotate_left
          · show Act.put _ _ _ = _
            simp only [Act.put, List.setIfInBounds_toArray, List.set_cons_zero, List.set_cons_succ, i64_w, i32_w]
            rfl
          have HX := Aside0.mk (one_row w5 x)
          have HB6 := Aside0.mk (below_alloc (Below.refl w5.heap.size w5) (.cells #[.int .i64 x.f0, .int .i64 x.f1, .string x.f2] 35))
          generalize Value.slice (some ⟨w5.heap.size, 0, none⟩) 1 1 = vx at HX ⊢
          generalize w5.alloc (.cells #[.int .i64 x.f0, .int .i64 x.f1, .string x.f2] 35) = w6 at HX HB6 ⊢
          refine last_ (i := 12) (N := some 71) #[true, true, true, true, true, true, true, true, true, true, true, true, true, false, false] rfl rfl (one_of HT_.out (by kernel_rfl)) (by decide) (fun K hK => ?_)
          refine Kd.R_append_rows_step k35 (w0 := w5) w5.heap.size (by rfl) (.tmp 67) (.tmp 70) 36 35 (.agg #[(.int .i64 0), (.int .i64 0), (.string ⟨#[]⟩)]) 32 rfl Try.underlying36 info35 rfl (by decide) (by omega) vx [x] (p.drop k) _ _ _ (fun _ => True) (fun _ => False) rfl rfl ?aO ?aR (fun _ _ h => h) (fun _ h => h.elim) ?aF ?aB ?aS ?aL ?_
          (case aO => exact HX.out)
          (case aR => have h_ := Kd.C_drop (Kd.C_below HP5.out HB6.out) hkp2 HCc.out; rw [List.length_drop] at h_; have h2_ := HA11.out; rw [show k35.sz = 3 from rfl, h2_] at h_; exact h_)
          (case aF => exact fun _ _ => trivial)
          (case aB => exact HB6.out)
          (case aS => exact HB6.out.size)
          (case aL => have := HPL.out; simp only [List.length_singleton]; omega)
          intro v7 w7 ho7 hb7 hg7 hat7
          refine hK.out _ _ ?_
          clear hK K
          refine norm_ (a' := ?_) ?_ ?_
          rotate_left
          · show Act.put _ _ _ = _
            simp only [Act.put, List.setIfInBounds_toArray, List.set_cons_zero, List.set_cons_succ, i64_w, i32_w]
            rfl
          have HP7 := Aside0.mk (Kd.C_below HP5.out hb7)
          have HB7 := Aside0.mk (below_step HB5.out hb7)
          obtain ⟨A7, c7, rfl, hl7, hc7⟩ := Kd.R_reads ho7
          have HC7 := Aside0.mk hc7
          clear ho7 hb7 hg7 hat7 hc7 HP5 HB5 HB6 HX
          refine last_ (i := 13) (N := some 72) #[true, true, true, true, true, true, true, true, true, true, true, true, true, true, false] rfl rfl (one_of HT_.out (by kernel_rfl)) (by decide) (fun K hK => ?_)
          refine grow_step (w0 := w) (by rfl) (.tmp 62) (.tmp 71) rfl Ao A7 k c7 (p.take k) ([x] ++ p.drop k) rfl rfl (by rw [List.length_take]; omega) ?bC HC7.out (by rw [List.length_append]; simp only [List.length_singleton]; omega) HB7.out (by have := HPL.out; simp only [List.length_append, List.length_take, List.length_drop, List.length_singleton]; omega) ?_
          (case bC => have h_ := Kd.C_take HP7.out hkp2; rwa [List.length_take, Nat.min_eq_left hkp2] at h_)
          intro v8 w8 ho8 hb8
          refine hK.out _ _ ?_
          clear hK K
          refine norm_ (a' := ?_) ?_ ?_
          rotate_left
          · show Act.put _ _ _ = _
            simp only [Act.put, List.setIfInBounds_toArray, List.set_cons_zero, List.set_cons_succ, i64_w, i32_w]
            rfl
          have HO8 := Aside0.mk ho8
          have HB8 := Aside0.mk hb8
          clear ho8 hb8 HB7 HC7 HP7
          refine pure_ (i := 14) (N := some 3) (v := ?_) (a' := ?_) #[true, true, true, true, true, true, true, true, true, true, true, true, true, true, true] rfl rfl (any_of HT_.out (by kernel_rfl)) (fun _ _ _ h => h) (Or.inl ⟨by rfl, ?_⟩) ?_ ?_
          rotate_left
          · intro w'
            go_simp
            with_reducible rfl
          rotate_left
          · simp only [Act.put, List.setIfInBounds_toArray, List.set_cons_zero, List.set_cons_succ, i64_w, i32_w]
            rfl
          refine done_ (done_of HT_.out (by kernel_rfl)) ?_
          go_wp2
          go_roundg (l.length - (i + 1))
          case measure => omega
          case rel => exact ⟨i + 1, by first | rfl | go_num, by omega, by omega, ⟨by rw [← hfin.out]; have h_ := HO8.out; rwa [List.singleton_append] at h_⟩, HB8⟩
    · obtain rfl : i = l.length := by omega
      rw [List.take_length] at hp
      subst hp
      go_wp2
      go_ret
      exact ⟨_, rfl, HO.out, HB.out⟩
end Go.Proofs.Ytbaokhcadifdmaa.Pure

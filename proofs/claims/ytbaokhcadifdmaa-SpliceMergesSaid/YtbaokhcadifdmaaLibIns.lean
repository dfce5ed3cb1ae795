/- slices.insertionSortCmpFunc at Splices, walked: the row it is handed is put in order in place ('srt'). -/
import Derived.Test.YtbaokhcadifdmaaLibSort
import Derived.Shelf.RegionOpenPlain
set_option linter.unusedVariables false
set_option linter.unusedSimpArgs false
namespace Go.Proofs.Ytbaokhcadifdmaa.Pure
open Go.RowKit Go.Proofs.Ytbaokhcadifdmaa.PAll Go.Proofs.YtbaokhcadifdmaaW.PrintWords Go.Proofs.YtbaokhcadifdmaaW.PrintLast Go.Proofs.YtbaokhcadifdmaaW.PrintMore Go.Proofs.YtbaokhcadifdmaaW.Plain

/-- Does x go ahead of y? -/
def lt3 (x y : S35) : Bool := decide (cf x y < 0)
/-- How far x goes down from place j in p. -/
def stop (p : List S35) (x : S35) : Nat → Nat
  | 0 => 0
  | j + 1 => if lt3 x (p.getD j z35) then stop p x j else j + 1
/-- x put into p, behind those that are not above it. -/
def put (p : List S35) (x : S35) : List S35 := p.take (stop p x p.length) ++ x :: p.drop (stop p x p.length)
/-- All in order. -/
def srt (l : List S35) : List S35 := l.foldl put []
theorem put_length (p : List S35) (x : S35) : (put p x).length = p.length + 1 := by
  unfold put
  rw [List.length_append, List.length_cons, List.length_take, List.length_drop]
  omega
theorem srt_snoc (l : List S35) (x : S35) : srt (l ++ [x]) = put (srt l) x := by simp [srt]
theorem foldl_put_length : ∀ (l p : List S35), (l.foldl put p).length = p.length + l.length
  | [], p => rfl
  | x :: l, p => by rw [List.foldl_cons, foldl_put_length l, put_length, List.length_cons]; omega
theorem srt_length (l : List S35) : (srt l).length = l.length := by
  unfold srt
  rw [foldl_put_length]
  simp
/-- The row in the midst of a round: x stands at j. -/
def mid (p rest : List S35) (x : S35) (j : Nat) : List S35 := p.take j ++ x :: (p.drop j ++ rest)
theorem mid_length (p rest : List S35) (x : S35) (j : Nat) : (mid p rest x j).length = p.length + 1 + rest.length := by
  unfold mid
  simp only [List.length_append, List.length_cons, List.length_take, List.length_drop]
  omega
theorem mid_at (p rest : List S35) (x : S35) (j : Nat) (hj : j ≤ p.length) : (mid p rest x j).getD j z35 = x := by
  unfold mid
  rw [List.getD_eq_getElem?_getD, List.getElem?_append_right (by rw [List.length_take]; omega), List.length_take, Nat.min_eq_left hj, Nat.sub_self]
  rfl
theorem mid_below (p rest : List S35) (x : S35) (j : Nat) (hj : j + 1 ≤ p.length) : (mid p rest x (j + 1)).getD j z35 = p.getD j z35 := by
  unfold mid
  rw [List.getD_eq_getElem?_getD, List.getElem?_append_left (by rw [List.length_take]; omega), List.getElem?_take, if_pos (by omega), List.getD_eq_getElem?_getD]
theorem mid_swap (p rest : List S35) (x : S35) (j : Nat) (hj : j + 1 ≤ p.length) : ((mid p rest x (j + 1)).set (j + 1) (p.getD j z35)).set j x = mid p rest x j := by
  have hpj : p.getD j z35 = p[j] := by rw [List.getD_eq_getElem?_getD, List.getElem?_eq_getElem (by omega)]; rfl
  have hl : (p.take j).length = j := by rw [List.length_take]; omega
  unfold mid
  rw [hpj, List.take_succ_eq_append_getElem (by omega), List.append_assoc, List.singleton_append, List.drop_eq_getElem_cons (show j < p.length by omega)]
  rw [List.set_append_right _ _ (by rw [hl]; omega), hl, show j + 1 - j = 1 by omega]
  simp only [List.set_cons_succ, List.set_cons_zero]
  rw [List.set_append_right _ _ (by rw [hl]; omega), hl, Nat.sub_self]
  rfl
/-- An element's cells. -/
def enc3 (x : S35) : List Value := [.int .i64 x.f0, .int .i64 x.f1, .string x.f2]
theorem enc3_length (x : S35) : (enc3 x).length = 3 := rfl
theorem enc3_one (x : S35) : ∀ v ∈ enc3 x, v.oneCell' = true := by
  intro v hv
  simp only [enc3, List.mem_cons, List.not_mem_nil, or_false] at hv
  rcases hv with rfl | rfl | rfl <;> rfl
theorem below_grow (w : World) (n : Nat) (os : Array Obj) : Below w.heap.size w (Go.Sort.grow (w.drewN n) os) :=
  ⟨rfl, rfl, rfl, by rw [Go.Sort.size_grow]; exact Nat.le_add_right _ _, fun k hk => by show (w.heap ++ os)[k]? = _; rw [Array.getElem?_append_left hk]⟩
theorem add_zero_ (g k : Nat) : (⟨g, 0, none⟩ : Addr).add k = ⟨g, k, none⟩ := by
  unfold Addr.add
  split <;> simp_all
theorem cells3 {W : World} {base g cap n : Nat} {ok : Nat → Prop} {xs : List S35} (HO : Kd.R k35 35 W base ok (.slice (some ⟨g, 0, none⟩) n cap) xs) (i : Nat) (hi : i < xs.length) :
    ∀ j v, (enc3 (xs.getD i z35))[j]? = some v → W.cell? ⟨g, i * 3 + j, none⟩ = some v := by
  obtain ⟨ad, e, h0, h1, h2⟩ := at_T35 (Kd.R_reads' HO).2.2 (i : Int) (by omega) (by omega)
  have hn := (Kd.R_reads' HO).1
  cases e
  simp only [Int.toNat_natCast, rd_T35, add_zero_] at h0 h1 h2
  intro j v hj
  match j with
  | 0 => simp only [enc3, List.getElem?_cons_zero, Option.some.injEq] at hj; rw [← hj]; exact h0
  | 1 => simp only [enc3, List.getElem?_cons_succ, List.getElem?_cons_zero, Option.some.injEq] at hj; rw [← hj]; exact h1
  | 2 => simp only [enc3, List.getElem?_cons_succ, List.getElem?_cons_zero, Option.some.injEq] at hj; rw [← hj]; exact h2
  | j + 3 => simp [enc3] at hj
theorem load3 (P : Program) {W : World} {base g cap n : Nat} {ok : Nat → Prop} {xs : List S35} (HO : Kd.R k35 35 W base ok (.slice (some ⟨g, 0, none⟩) n cap) xs) (i : Nat) (hi : i < xs.length) (x : S35) (hx : xs.getD i z35 = x) :
    Sem.run P (loadCellsFrom ⟨g, i * 3, none⟩ 0 3 #[]) W = .ok (enc3 x).toArray W := by
  have h := cells3 HO i hi
  rw [hx] at h
  have h0 := h 0 _ rfl
  have h1 := h 1 _ rfl
  have h2 := h 2 _ rfl
  rw [Nat.add_zero] at h0
  simp [loadCellsFrom, Addr.add, h0, h1, h2, enc3]
theorem store3 (P : Program) {W : World} {base g cap n : Nat} {ok : Nat → Prop} {xs : List S35} (HO : Kd.R k35 35 W base ok (.slice (some ⟨g, 0, none⟩) n cap) xs) (i : Nat) (hi : i < xs.length) (x : S35) :
    Sem.run P (storeCells ⟨g, i * 3, none⟩ (enc3 x) 0) W = .ok () (W.setCells g (i * 3) (enc3 x)) := by
  obtain ⟨g', cap', e, _, _, cells, hc⟩ := Kd.R_form HO (by omega)
  cases e
  have h := cells3 HO i hi
  have := run_storeCells_cells (P := P) g (i * 3) (enc3 x) 0 W (fun j hj => by
    rw [Nat.add_zero]
    rw [enc3_length] at hj
    obtain ⟨v, hv⟩ : ∃ v, (enc3 (xs.getD i z35))[j]? = some v := ⟨_, List.getElem?_eq_getElem (by rw [enc3_length]; exact hj)⟩
    rw [h j v hv]
    rfl) (fun j _ => blk_frozen hc _) (enc3_one x)
  rwa [Nat.add_zero] at this
theorem set3 {W : World} {base g cap n : Nat} {xs : List S35} (HO : Kd.R k35 35 W base (fun _ => True) (.slice (some ⟨g, 0, none⟩) n cap) xs) (i : Nat) (hi : i < xs.length) (x : S35) :
    Kd.R k35 35 (W.setCells g (i * 3) (enc3 x)) base (fun _ => True) (.slice (some ⟨g, 0, none⟩) n cap) (xs.set i x) ∧ W.grownBy (W.setCells g (i * 3) (enc3 x)) (some g) := by
  have hn := (Kd.R_reads' HO).1
  have := Kd.R_seg HO (i : Int) (by omega) (by omega) (c := enc3 (xs.getD i z35)) (seg := enc3 x) (j := 0) (x' := x) (okp := fun _ => False) rfl (cells3 HO i hi) (Nat.le_refl _) (k35_mkM _ _ _ x) (fun _ h => h.elim)
  rw [show k35.sz = 3 from rfl] at this
  simpa using this
theorem below_le {B : Nat} {w w' : World} (h : Below w.heap.size w w') (hB : B ≤ w.heap.size) : Below B w w' := ⟨h.os, h.tape, h.output, h.size, fun k hk => h.block k (by omega)⟩
theorem storeAt3 {W : World} {base g cap n : Nat} {ok : Nat → Prop} {xs : List S35} (HO : Kd.R k35 35 W base ok (.slice (some ⟨g, 0, none⟩) n cap) xs) (i : Nat) (hi : i < xs.length) (x : S35) :
    (Instr.storeAt 35 (.pointer (some ⟨g, i * 3, none⟩)) (.agg #[.int .i64 x.f0, .int .i64 x.f1, .string x.f2])).run Try.prog W = .ok () (W.setCells g (i * 3) (enc3 x)) := by
  have hn := (Kd.R_reads' HO).1
  obtain ⟨_, inner, hown, hr⟩ := HO
  rcases hown.2 with ⟨hv, _⟩ | ⟨g', cap', cur, hv, hb, hh, hnc, hcm, hcs, _⟩
  · cases hv
  · injection hv with ha _ hc
    injection ha with ha
    injection ha with hg'
    subst hg'; subst hc
    rw [show k35.sz = 3 from rfl] at hcs
    exact run_store_run 35 _ (enc3 x) hh rfl (by kernel_rfl) (by rw [enc3_length]; omega) (enc3_one x)
theorem store_wp {P : Program} {a : Act} {w : World} {K : Act → World → Prop} {Q : Exit → Act → World → Prop} (o : Oper) (t : TypeId) (p x : Operand) (ho : o.op = .store t p x) (hd : o.dst = none) (v u : Value) (hp : a.eval p = v) (hx : a.eval x = u) (W' : World)
    (hrun : (Instr.storeAt t v u).run P w = .ok () W') (hK : K (a.put none undef) W') : Oper.wp P o a w K Q := by
  unfold Oper.wp execOp
  simp only [ho, hp, hx, Sem.run_bind, Sem.run_pure, Result.andThen_ok, hrun]
  show K (a.put o.dst undef) _
  rw [hd]
  exact hK
def T45 : Bool × List (List Nat × List Nat) := (true, [([], []), ([], []), ([], []), ([], []), ([3], [3]), ([], []), ([], []), ([6], [6]), ([5, 7], [5, 7]), ([8], [8]), ([], []), ([], []), ([10, 11], [10, 11]), ([12], [12]), ([0, 1, 0, 1, 5, 6, 7, 8, 9, 13], [0, 1]), ([14, 9, 0, 1, 5, 6, 7, 8, 9, 13], [9, 14]), ([2, 4, 0, 1, 2, 3, 4, 5, 6, 7, 8, 9, 10, 11, 12, 13, 14, 15], [2, 4]), ([16, 13, 15, 0, 1, 2, 3, 4, 5, 6, 7, 8, 9, 10, 11, 12, 13, 14, 15], [13, 16])])
def B45 : List Nat := [0, 0, 0, 0, 8, 0, 0, 64, 224, 480, 0, 0, 3072, 7168, 16355, 32739, 65535, 131071]
theorem tab45 : rtab .any (opsOf Try.f45 6) = T45 := by kernel_rfl
theorem bits45 : waitsOk T45.2 B45 = true := by kernel_rfl
theorem less_walk3 (x y : S35) (w : World) : Calls Try.prog 38 #[.agg (enc3 x).toArray, .agg (enc3 y).toArray] w fun e w' => e = .returned (.int .i64 (cf x y)) ∧ ∃ q os', w' = Go.Sort.grow (w.drewN q) os' := less_walk x y w
set_option maxHeartbeats 4000000 in
set_option maxRecDepth 1000000 in
theorem ins_walk (g off cap base : Nat) (hoff : off = 0) (xs : List S35) (W0 W : World) (hn : 1 ≤ xs.length) (hsz : xs.length ≤ 1000) (HO0 : Kd.R k35 35 W base (fun _ => True) (.slice (some ⟨g, 0, none⟩) xs.length cap) xs) (HB0 : Below base W0 W) (hbg : base ≤ g) (hb0 : base ≤ W0.heap.size) :
    Calls Try.prog 45 #[.slice (some ⟨g, off, none⟩) xs.length cap, .int .i64 0, .int .i64 xs.length, .func (.func 38) #[] #[]] W fun e w' =>
      e = .returned (.tuple #[]) ∧ Kd.R k35 35 w' base (fun _ => True) (.slice (some ⟨g, 0, none⟩) xs.length cap) (srt xs) ∧ Below base W0 w' := by
  have mixed : Try.prog.follows .mixedOrders = true := by kernel_rfl
  have HOF := Aside0.mk hoff
  have HO0' := Aside0.mk HO0
  have HB0' := Aside0.mk HB0
  clear HO0 HB0 hoff
  go_enter Try.func45, Try.ntmps45
  go_wp2
  go_loopg [8] xs.length (fun g1 vi wr => ∃ (i : Nat) (ys : List S35), vi = .int .i64 i ∧ 1 ≤ i ∧ i ≤ xs.length ∧ xs.length ≤ g1 + i ∧ ys.length = xs.length ∧ Aside0 (ys = srt (xs.take i) ++ xs.drop i) ∧ Aside0 (Kd.R k35 35 wr base (fun _ => True) (.slice (some ⟨g, 0, none⟩) xs.length cap) ys) ∧ Aside0 (Below base W0 wr))
  case atStart =>
    refine ⟨1, xs, by first | rfl | go_num, Nat.le_refl _, hn, by omega, rfl, ⟨?_⟩, HO0', HB0'⟩
    match xs, hn with
    | x :: l, _ => simp [srt, put, stop]
  case round =>
    obtain ⟨i, ys, rfl, hi1, hin, hg1, hyl, HY, HO, HB⟩ := hrel
    by_cases hlt : i < xs.length
    · have hltz : (i : Int) < (xs.length : Int) := by omega
      obtain ⟨p, hp⟩ : ∃ p, srt (xs.take i) = p := ⟨_, rfl⟩
      obtain ⟨x, hx⟩ : ∃ x, xs.getD i z35 = x := ⟨_, rfl⟩
      obtain ⟨rest, hrest⟩ : ∃ rest, xs.drop (i + 1) = rest := ⟨_, rfl⟩
      have hpl : p.length = i := by rw [← hp, srt_length, List.length_take]; omega
      have hrl : i + 1 + rest.length = xs.length := by rw [← hrest, List.length_drop]; omega
      have HM := Aside0.mk (show ys = mid p rest x i by
        rw [HY.out, hp, ← hrest, ← hx]
        unfold mid
        rw [← hpl, List.take_length, List.drop_length, List.nil_append, hpl, List.drop_eq_getElem_cons hlt, List.getD_eq_getElem?_getD, List.getElem?_eq_getElem hlt]
        rfl)
      have HS := Aside0.mk (show srt (xs.take (i + 1)) ++ xs.drop (i + 1) = put p x ++ rest by
        rw [hrest, List.take_succ_eq_append_getElem hlt, srt_snoc, hp, ← hx, List.getD_eq_getElem?_getD, List.getElem?_eq_getElem hlt]
        rfl)
      clear hp hx hrest HY
      go_wp2
      go_loopg [9] i (fun g2 vj wr2 => ∃ (j : Nat) (zs : List S35), vj = .int .i64 j ∧ j ≤ i ∧ j ≤ g2 ∧ zs.length = xs.length ∧ Aside0 (zs = mid p rest x j) ∧ Aside0 (stop p x i = stop p x j) ∧ Aside0 (Kd.R k35 35 wr2 base (fun _ => True) (.slice (some ⟨g, 0, none⟩) xs.length cap) zs) ∧ Aside0 (Below base W0 wr2))
      case atStart => exact ⟨i, ys, rfl, Nat.le_refl _, Nat.le_refl _, hyl, HM, ⟨rfl⟩, HO, HB⟩
      case round =>
        clear HM HO HB hyl
        obtain ⟨j, zs, rfl, hji, hg2, hzl, HM, HT, HO, HB⟩ := hrel
        have out : stop p x j = j → Aside0 (mid p rest x j = srt (xs.take (i + 1)) ++ xs.drop (i + 1)) := fun hs => by
          refine ⟨?_⟩
          rw [HS.out]
          unfold put mid
          rw [hpl, HT.out, hs, List.append_assoc, List.cons_append]
        have OUT := Aside0.mk out
        clear out
        by_cases hja : 0 < j
        · obtain ⟨jp, rfl⟩ : ∃ jp, j = jp + 1 := ⟨j - 1, by omega⟩
          obtain ⟨xp, hxp⟩ : ∃ y, p.getD jp z35 = y := ⟨_, rfl⟩
          have hwp : IntKind.i64.wrap (jp : Int) = (jp : Int) := by rw [IntKind.wrap_i64]; omega
          have jz : (jp : Int) + 1 < (xs.length : Int) := by omega
          have jz1 : (jp : Int) < (xs.length : Int) := by omega
          have hjaz' : (0 : Int) < (jp : Int) + 1 := by omega
          have p0 : (0 : Int) ≤ (jp : Int) + 1 := by omega
          have e0 : ((jp : Int) + 1).toNat = jp + 1 := by omega
          have rj : zs.getD (jp + 1) z35 = x := by rw [HM.out]; exact mid_at p rest x (jp + 1) (by omega)
          have rp : zs.getD jp z35 = xp := by rw [HM.out, ← hxp]; exact mid_below p rest x jp (by omega)
          have cJ := fun n' os' => cells3 (Kd.R_below HO.out (below_grow wr n' os')) (jp + 1) (by omega)
          have cP := fun n' os' => cells3 (Kd.R_below HO.out (below_grow wr n' os')) jp (by omega)
          simp only [rj, rp] at cJ cP
          have j0 : ∀ n' os', (Go.Sort.grow (wr.drewN n') os').cell? ⟨g, off + (jp + 1) * 3, none⟩ = some (.int .i64 x.f0) := fun n' os' => by rw [HOF.out, Nat.zero_add]; exact cJ n' os' 0 _ rfl
          have j1 : ∀ n' os', (Go.Sort.grow (wr.drewN n') os').cell? ⟨g, off + (jp + 1) * 3 + 1, none⟩ = some (.int .i64 x.f1) := fun n' os' => by rw [HOF.out, Nat.zero_add]; exact cJ n' os' 1 _ rfl
          have j2 : ∀ n' os', (Go.Sort.grow (wr.drewN n') os').cell? ⟨g, off + (jp + 1) * 3 + 2, none⟩ = some (.string x.f2) := fun n' os' => by rw [HOF.out, Nat.zero_add]; exact cJ n' os' 2 _ rfl
          have q0 : ∀ n' os', (Go.Sort.grow (wr.drewN n') os').cell? ⟨g, off + jp * 3, none⟩ = some (.int .i64 xp.f0) := fun n' os' => by rw [HOF.out, Nat.zero_add]; exact cP n' os' 0 _ rfl
          have q1 : ∀ n' os', (Go.Sort.grow (wr.drewN n') os').cell? ⟨g, off + jp * 3 + 1, none⟩ = some (.int .i64 xp.f1) := fun n' os' => by rw [HOF.out, Nat.zero_add]; exact cP n' os' 1 _ rfl
          have q2 : ∀ n' os', (Go.Sort.grow (wr.drewN n') os').cell? ⟨g, off + jp * 3 + 2, none⟩ = some (.string xp.f2) := fun n' os' => by rw [HOF.out, Nat.zero_add]; exact cP n' os' 2 _ rfl
          clear cJ cP
          have hcg : ∀ n' os', Calls Try.prog 38 #[.agg #[.int .i64 x.f0, .int .i64 x.f1, .string x.f2], .agg #[.int .i64 xp.f0, .int .i64 xp.f1, .string xp.f2]] (Go.Sort.grow (wr.drewN n') os') fun e w' => e = .returned (.int .i64 (cf x xp)) ∧ ∃ q os'', w' = Go.Sort.grow ((Go.Sort.grow (wr.drewN n') os').drewN q) os'' := fun n' os' => less_walk x xp _
          have RJ := Aside0.mk rj
          have RP := Aside0.mk rp
          clear rj rp
          by_cases hlv : cf x xp < 0
          · go_wp2_with fail
            go_quiet_grown (first | (go_at_call 38; refine Calls.grown_of (hcg _ _)))
            go_wp2_with fail
            clear j0 j1 j2 q0 q1 q2 hcg
            have HO2 := Aside0.mk (Kd.R_drew (Kd.R_below HO.out (below_grow wr nq osq)))
            have HB2 := Aside0.mk (below_drew1 (HB.out.trans (below_le (below_grow wr nq osq) (Nat.le_trans hb0 HB.out.size))))
            generalize Go.Sort.grow (wr.drewN nq) osq = wq at HO2 HB2 ⊢
            have j0 : wq.drew.cell? ⟨g, off + (jp + 1) * 3, none⟩ = some (.int .i64 x.f0) := by rw [HOF.out, Nat.zero_add]; exact cells3 HO2.out (jp + 1) (by omega) 0 _ (by rw [RJ.out]; rfl)
            have j1 : wq.drew.cell? ⟨g, off + (jp + 1) * 3 + 1, none⟩ = some (.int .i64 x.f1) := by rw [HOF.out, Nat.zero_add]; exact cells3 HO2.out (jp + 1) (by omega) 1 _ (by rw [RJ.out]; rfl)
            have j2 : wq.drew.cell? ⟨g, off + (jp + 1) * 3 + 2, none⟩ = some (.string x.f2) := by rw [HOF.out, Nat.zero_add]; exact cells3 HO2.out (jp + 1) (by omega) 2 _ (by rw [RJ.out]; rfl)
            have q0 : wq.drew.cell? ⟨g, off + jp * 3, none⟩ = some (.int .i64 xp.f0) := by rw [HOF.out, Nat.zero_add]; exact cells3 HO2.out jp (by omega) 0 _ (by rw [RP.out]; rfl)
            have q1 : wq.drew.cell? ⟨g, off + jp * 3 + 1, none⟩ = some (.int .i64 xp.f1) := by rw [HOF.out, Nat.zero_add]; exact cells3 HO2.out jp (by omega) 1 _ (by rw [RP.out]; rfl)
            have q2 : wq.drew.cell? ⟨g, off + jp * 3 + 2, none⟩ = some (.string xp.f2) := by rw [HOF.out, Nat.zero_add]; exact cells3 HO2.out jp (by omega) 2 _ (by rw [RP.out]; rfl)
            have fz : ∀ k, wq.drew.frozen? ⟨g, k, none⟩ = false := by
              obtain ⟨g', cap', e, _, _, cells, hc⟩ := Kd.R_form HO2.out (by omega)
              simp only [Value.slice.injEq, Option.some.injEq, Addr.mk.injEq] at e
              obtain ⟨⟨rfl, _⟩, _⟩ := e
              exact fun k => blk_frozen hc k
            refine start_ (n := 18) (S := fun w' => w'.cell? ⟨g, off + (jp + 1) * 3, none⟩ = some (.int .i64 x.f0) ∧ w'.cell? ⟨g, off + (jp + 1) * 3 + 1, none⟩ = some (.int .i64 x.f1) ∧ w'.cell? ⟨g, off + (jp + 1) * 3 + 2, none⟩ = some (.string x.f2) ∧ w'.cell? ⟨g, off + jp * 3, none⟩ = some (.int .i64 xp.f0) ∧ w'.cell? ⟨g, off + jp * 3 + 1, none⟩ = some (.int .i64 xp.f1) ∧ w'.cell? ⟨g, off + jp * 3 + 2, none⟩ = some (.string xp.f2)) (ds := [15, 17]) #[false, false, false, false, false, false, false, false, false, false, false, false, false, false, false, false, false, false] (by kernel_rfl) rfl rfl ⟨j0, j1, j2, q0, q1, q2⟩ (fun hHeld => ?_)
            refine with_tabW tab45 bits45 (fun HT_ HW_ => ?_)
            generalize wq.drew = w5 at HO2 HB2 fz hHeld ⊢
            clear j0 j1 j2 q0 q1 q2
            refine pure_ (i := 0) (N := some 37) (v := ?_) (a' := ?_) #[true, false, false, false, false, false, false, false, false, false, false, false, false, false, false, false, false, false] rfl rfl (any_of HT_.out (by kernel_rfl)) (fun _ _ _ h => h) (Or.inl ⟨by rfl, ?_⟩) ?_ ?_
            rotate_left
            · intro w'
              go_simp
              with_reducible rfl
            rotate_left
            · simp only [Act.put, List.setIfInBounds_toArray, List.set_cons_zero, List.set_cons_succ, i64_w, i32_w]
              rfl
            refine pure_ (i := 1) (N := some 38) (v := ?_) (a' := ?_) #[true, true, false, false, false, false, false, false, false, false, false, false, false, false, false, false, false, false] rfl rfl (any_of HT_.out (by kernel_rfl)) (fun _ _ _ h => h) (Or.inl ⟨by rfl, ?_⟩) ?_ ?_
            rotate_left
            · intro w'
              go_simp
              with_reducible rfl
            rotate_left
            · simp only [Act.put, List.setIfInBounds_toArray, List.set_cons_zero, List.set_cons_succ, i64_w, i32_w]
              rfl
            refine pure_ (i := 2) (N := some 39) (v := ?_) (a' := ?_) #[true, true, true, false, false, false, false, false, false, false, false, false, false, false, false, false, false, false] rfl rfl (any_of HT_.out (by kernel_rfl)) (fun _ _ _ h => h) (Or.inl ⟨by rfl, ?_⟩) ?_ ?_
            rotate_left
            · intro w'
              go_simp
              with_reducible rfl
            rotate_left
            · simp only [Act.put, List.setIfInBounds_toArray, List.set_cons_zero, List.set_cons_succ, i64_w, i32_w]
              rfl
            refine pure_ (i := 3) (N := some 40) (v := ?_) (a' := ?_) #[true, true, true, true, false, false, false, false, false, false, false, false, false, false, false, false, false, false] rfl rfl (any_of HT_.out (by kernel_rfl)) (fun _ _ _ h => h) (Or.inl ⟨by rfl, ?_⟩) ?_ ?_
            rotate_left
            · intro w'
              go_simp
              with_reducible rfl
            rotate_left
            · simp only [Act.put, List.setIfInBounds_toArray, List.set_cons_zero, List.set_cons_succ, i64_w, i32_w]
              rfl
            refine pure_ (i := 4) (N := some 41) (v := ?_) (a' := ?_) #[true, true, true, true, true, false, false, false, false, false, false, false, false, false, false, false, false, false] rfl rfl (any_of HT_.out (by kernel_rfl)) (fun _ _ _ h => h) (Or.inl ⟨by rfl, ?_⟩) ?_ ?_
            rotate_left
            · intro w'
              go_simp
              with_reducible rfl
            rotate_left
            · simp only [Act.put, List.setIfInBounds_toArray, List.set_cons_zero, List.set_cons_succ, i64_w, i32_w]
              rfl
            refine pure_ (i := 5) (N := some 42) (v := ?_) (a' := ?_) #[true, true, true, true, true, true, false, false, false, false, false, false, false, false, false, false, false, false] rfl rfl (any_of HT_.out (by kernel_rfl)) (fun _ _ _ h => h) (Or.inl ⟨by rfl, ?_⟩) ?_ ?_
            rotate_left
            · intro w'
              go_simp
              with_reducible rfl
            rotate_left
            · simp only [Act.put, List.setIfInBounds_toArray, List.set_cons_zero, List.set_cons_succ, i64_w, i32_w]
              rfl
            refine pure_ (i := 6) (N := some 43) (v := ?_) (a' := ?_) #[true, true, true, true, true, true, true, false, false, false, false, false, false, false, false, false, false, false] rfl rfl (any_of HT_.out (by kernel_rfl)) (fun _ _ _ h => h) (Or.inl ⟨by rfl, ?_⟩) ?_ ?_
            rotate_left
            · intro w'
              go_simp
              with_reducible rfl
            rotate_left
            · simp only [Act.put, List.setIfInBounds_toArray, List.set_cons_zero, List.set_cons_succ, i64_w, i32_w]
              rfl
            refine pure_ (i := 7) (N := some 44) (v := ?_) (a' := ?_) #[true, true, true, true, true, true, true, true, false, false, false, false, false, false, false, false, false, false] rfl rfl (any_of HT_.out (by kernel_rfl)) (fun _ _ _ h => h) (Or.inl ⟨by rfl, ?_⟩) ?_ ?_
            rotate_left
            · intro w'
              go_simp
              with_reducible rfl
            rotate_left
            · simp only [Act.put, List.setIfInBounds_toArray, List.set_cons_zero, List.set_cons_succ, i64_w, i32_w]
              rfl
            refine pure_ (i := 8) (N := some 45) (v := ?_) (a' := ?_) #[true, true, true, true, true, true, true, true, true, false, false, false, false, false, false, false, false, false] rfl rfl (any_of HT_.out (by kernel_rfl)) (fun _ _ _ h => h) (Or.inl ⟨by rfl, ?_⟩) ?_ ?_
            rotate_left
            · intro w'
              go_simp
              with_reducible rfl
            rotate_left
            · simp only [Act.put, List.setIfInBounds_toArray, List.set_cons_zero, List.set_cons_succ, i64_w, i32_w]
              rfl
            refine pure_ (i := 10) (N := some 47) (v := ?_) (a' := ?_) #[true, true, true, true, true, true, true, true, true, false, true, false, false, false, false, false, false, false] rfl rfl (any_of HT_.out (by kernel_rfl)) (fun _ _ _ h => h) (Or.inl ⟨by rfl, ?_⟩) ?_ ?_
            rotate_left
            · intro w'
              go_simp
              with_reducible rfl
            rotate_left
            · simp only [Act.put, List.setIfInBounds_toArray, List.set_cons_zero, List.set_cons_succ, i64_w, i32_w]
              rfl
            refine pure_ (i := 11) (N := some 48) (v := ?_) (a' := ?_) #[true, true, true, true, true, true, true, true, true, false, true, true, false, false, false, false, false, false] rfl rfl (any_of HT_.out (by kernel_rfl)) (fun _ _ _ h => h) (Or.inl ⟨by rfl, ?_⟩) ?_ ?_
            rotate_left
            · intro w'
              go_simp
              with_reducible rfl
            rotate_left
            · simp only [Act.put, List.setIfInBounds_toArray, List.set_cons_zero, List.set_cons_succ, i64_w, i32_w]
              rfl
            refine pure_ (i := 12) (N := some 49) (v := ?_) (a' := ?_) #[true, true, true, true, true, true, true, true, true, false, true, true, true, false, false, false, false, false] rfl rfl (any_of HT_.out (by kernel_rfl)) (fun _ _ _ h => h) (Or.inl ⟨by rfl, ?_⟩) ?_ ?_
            rotate_left
            · intro w'
              go_simp
              with_reducible rfl
            rotate_left
            · simp only [Act.put, List.setIfInBounds_toArray, List.set_cons_zero, List.set_cons_succ, i64_w, i32_w]
              rfl
            refine take_ (i := 9) (N := some 46) (v := ?_) (a' := ?_) #[true, true, true, true, true, true, true, true, true, true, true, true, true, false, false, false, false, false] rfl rfl (take_ofW HT_.out HW_.out (by kernel_rfl)) (fun _ _ _ h => h) (Or.inl ⟨by rfl, ?_⟩) hHeld ?_ ?_
            rotate_left
            · rintro w' ⟨s0, s1, s2, s3, s4, s5⟩
              go_simp
              with_reducible rfl
            rotate_left
            · simp only [Act.put, List.setIfInBounds_toArray, List.set_cons_zero, List.set_cons_succ, i64_w, i32_w]
              rfl
            refine take_ (i := 13) (N := some 50) (v := ?_) (a' := ?_) #[true, true, true, true, true, true, true, true, true, true, true, true, true, true, false, false, false, false] rfl rfl (take_ofW HT_.out HW_.out (by kernel_rfl)) (fun _ _ _ h => h) (Or.inl ⟨by rfl, ?_⟩) hHeld ?_ ?_
            rotate_left
            · rintro w' ⟨s0, s1, s2, s3, s4, s5⟩
              go_simp
              with_reducible rfl
            rotate_left
            · simp only [Act.put, List.setIfInBounds_toArray, List.set_cons_zero, List.set_cons_succ, i64_w, i32_w]
              rfl
            refine pure_ (i := 14) (N := some 51) (v := ?_) (a' := ?_) #[true, true, true, true, true, true, true, true, true, true, true, true, true, true, true, false, false, false] rfl rfl (any_of HT_.out (by kernel_rfl)) (fun _ _ _ h => h) (Or.inl ⟨by rfl, ?_⟩) ?_ ?_
            rotate_left
            · intro w'
              go_simp
              with_reducible rfl
            rotate_left
            · simp only [Act.put, List.setIfInBounds_toArray, List.set_cons_zero, List.set_cons_succ, i64_w, i32_w]
              rfl
            refine last_ (i := 15) (N := none) #[true, true, true, true, true, true, true, true, true, true, true, true, true, true, true, true, false, false] rfl rfl (one_of HT_.out (by kernel_rfl)) (by decide) (fun K hK => ?_)
            rw [if_pos (by rfl)]
            have hs1 : (Instr.storeAt 35 (.pointer (some ⟨g, off + (jp + 1) * 3, none⟩)) (.agg #[.int .i64 xp.f0, .int .i64 xp.f1, .string xp.f2])).run Try.prog w5 = .ok () (w5.setCells g ((jp + 1) * 3) (enc3 xp)) := by rw [HOF.out, Nat.zero_add]; exact storeAt3 HO2.out (jp + 1) (by omega) xp
            have HS1 := Aside0.mk (set3 HO2.out (jp + 1) (by omega) xp)
            refine store_wp _ 35 (.tmp 51) (.tmp 46) rfl rfl _ _ rfl rfl _ hs1 ?_
            refine hK.out _ _ ?_
            clear hK K hs1
            refine norm_ (a' := ?_) ?_ ?_
            rotate_left
            · show Act.put _ none _ = _
              simp only [Act.put, List.setIfInBounds_toArray, List.set_cons_zero, List.set_cons_succ, i64_w, i32_w]
              rfl
            have HB3 := Aside0.mk (pw_below_grown HB2.out (some g) (Nat.le_trans hb0 HB2.out.size) HS1.out.2 (fun k hk => by injection hk with hk; omega))
            have HO3 := Aside0.mk HS1.out.1
            clear HS1 HO2 HB2 fz
            generalize w5.setCells g ((jp + 1) * 3) (enc3 xp) = w6 at HO3 HB3 ⊢
            refine pure_ (i := 16) (N := some 52) (v := ?_) (a' := ?_) #[true, true, true, true, true, true, true, true, true, true, true, true, true, true, true, true, true, false] rfl rfl (any_of HT_.out (by kernel_rfl)) (fun _ _ _ h => h) (Or.inl ⟨by rfl, ?_⟩) ?_ ?_
            rotate_left
            · intro w'
              go_simp
              with_reducible rfl
            rotate_left
            · simp only [Act.put, List.setIfInBounds_toArray, List.set_cons_zero, List.set_cons_succ, i64_w, i32_w]
              rfl
            refine last_ (i := 17) (N := none) #[true, true, true, true, true, true, true, true, true, true, true, true, true, true, true, true, true, true] rfl rfl (one_of HT_.out (by kernel_rfl)) (by decide) (fun K hK => ?_)
            rw [if_pos (by rfl)]
            have hs2 : (Instr.storeAt 35 (.pointer (some ⟨g, off + jp * 3, none⟩)) (.agg #[.int .i64 x.f0, .int .i64 x.f1, .string x.f2])).run Try.prog w6 = .ok () (w6.setCells g (jp * 3) (enc3 x)) := by rw [HOF.out, Nat.zero_add]; exact storeAt3 HO3.out jp (by rw [List.length_set]; omega) x
            have HS2 := Aside0.mk (set3 HO3.out jp (by rw [List.length_set]; omega) x)
            refine store_wp _ 35 (.tmp 52) (.tmp 50) rfl rfl _ _ rfl rfl _ hs2 ?_
            refine hK.out _ _ ?_
            clear hK K hs2
            refine norm_ (a' := ?_) ?_ ?_
            rotate_left
            · show Act.put _ none _ = _
              simp only [Act.put, List.setIfInBounds_toArray, List.set_cons_zero, List.set_cons_succ, i64_w, i32_w]
              rfl
            have HB4 := Aside0.mk (pw_below_grown HB3.out (some g) (Nat.le_trans hb0 HB3.out.size) HS2.out.2 (fun k hk => by injection hk with hk; omega))
            have HO4 := Aside0.mk HS2.out.1
            clear HS2 HO3 HB3
            generalize w6.setCells g (jp * 3) (enc3 x) = w7 at HO4 HB4 ⊢
            refine done_ (done_of HT_.out (by kernel_rfl)) ?_
            go_wp2
            go_roundg jp
            case measure => omega
            case rel =>
              have hmm : (zs.set (jp + 1) xp).set jp x = mid p rest x jp := by rw [HM.out, ← hxp]; exact mid_swap p rest x jp (by omega)
              rw [hmm] at HO4
              refine ⟨jp, mid p rest x jp, by first | rfl | go_num, by omega, Nat.le_refl _, by rw [mid_length]; omega, ⟨rfl⟩, ⟨?_⟩, HO4, HB4⟩
              have hl : lt3 x (p.getD jp z35) = true := by rw [hxp]; exact decide_eq_true hlv
              rw [HT.out]
              simp only [stop, hl]
              rfl
          · go_wp2_with fail
            go_quiet_grown (first | (go_at_call 38; refine Calls.grown_of (hcg _ _)))
            go_wp2
            go_roundg (xs.length - (i + 1))
            case measure => omega
            case rel =>
              refine ⟨i + 1, zs, by go_num, by omega, by omega, by omega, hzl, ⟨?_⟩, ⟨Kd.R_below HO.out (below_grow wr nq osq)⟩, ⟨HB.out.trans (below_le (below_grow wr nq osq) (Nat.le_trans hb0 HB.out.size))⟩⟩
              rw [HM.out]
              refine (OUT.out ?_).out
              have : lt3 x (p.getD jp z35) = false := by rw [hxp]; exact decide_eq_false (by omega)
              simp only [stop, this]
              rfl
        · obtain rfl : j = 0 := by omega
          have hjaz : decide ((0 : Int) > (0 : Int)) = false := rfl
          go_wp2_with fail
          go_big_region_o
          all_goals go_wp2
          go_roundg (xs.length - (i + 1))
          case measure => omega
          case rel =>
            refine ⟨i + 1, zs, by go_num, by omega, by omega, by omega, hzl, ⟨?_⟩, ⟨Kd.R_drew HO.out⟩, ⟨below_drew1 HB.out⟩⟩
            rw [HM.out]
            exact (OUT.out rfl).out
    · obtain rfl : i = xs.length := by omega
      have hltz : ¬ (xs.length : Int) < (xs.length : Int) := by omega
      go_wp2
      go_end0
      refine ⟨rfl, ?_, HB.out⟩
      have := HY.out
      rw [List.take_length, List.drop_length, List.append_nil] at this
      rw [← this]
      exact HO.out
end Go.Proofs.Ytbaokhcadifdmaa.Pure

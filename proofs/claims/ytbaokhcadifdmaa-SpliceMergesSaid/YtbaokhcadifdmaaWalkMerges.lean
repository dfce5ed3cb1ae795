/- The law SpliceMerges, walked: its first loop's steps are printed (wip/tools/turn7.py), what follows is by hand. -/
import Derived.Test.YtbaokhcadifdmaaPAllF21
import Derived.Test.YtbaokhcadifdmaaPAllF20
import Derived.Test.YtbaokhcadifdmaaLibMerge
import Derived.Test.YtbaokhcadifdmaaLibOrd
import Derived.Maps.OwnSet
import Derived.StringKeys
import Derived.WalkLawsBesides
set_option linter.unusedVariables false
set_option linter.unusedSimpArgs false
namespace Go.Proofs.Ytbaokhcadifdmaa.Pure
open Go.RowKit Go.Proofs.Ytbaokhcadifdmaa.PAll Go.Proofs.YtbaokhcadifdmaaW.PrintWords Go.Proofs.YtbaokhcadifdmaaW.PrintLast Go.Proofs.YtbaokhcadifdmaaW.PrintMore Go.Proofs.YtbaokhcadifdmaaW.Plain
open Go.WideShapes
attribute [local go_sem] max2_int min2_int max_two min_two


def scholiumlaw03_SpliceMerges.l0 : Nat → List (S35) → Int → Int → Option ((List (S35)))
  | 0, _, _, _ => none
  | k + 1, x3, x13, x14 => if x14 < x13 then (if 0 ≤ x14 then (if x14 < (x3.length : Int) then ((scholiumkeep_Within.f ((rd_T35 x3 x14).f0) 4).bind fun t132 => ((scholiumkeep_Within.f ((rd_T35 x3 x14).f1) 4).bind fun t134 => ((some (x3.set (x14 : Int).toNat (⟨t132, (rd_T35 x3 x14).f1, (rd_T35 x3 x14).f2⟩ : S35) : List (S35))).bind fun y135 => ((some (y135.set (x14 : Int).toNat (⟨(rd_T35 y135 x14).f0, t134, (rd_T35 y135 x14).f2⟩ : S35) : List (S35))).bind fun y136 => (scholiumlaw03_SpliceMerges.l0 k (y136.set (x14 : Int).toNat (⟨(rd_T35 y136 x14).f0, (rd_T35 y136 x14).f1, strOfNums (([(wrap64 (97 + x14)) % 256] : List Int))⟩ : S35)) x13 (wrap64 (x14 + 1))))))) else (none)) else (none)) else (some x3)
def scholiumlaw03_SpliceMerges.f (k : Nat) (l0 : List (S35)) : Option ((List (S35))) := (scholiumlaw03_Splices.f k l0 30 true).bind fun t128 => (scholiumlaw03_SpliceMerges.l0 k t128 (t128.length : Int) 0)
theorem scholiumlaw03_SpliceMerges.mono_l : ∀ k, (∀ y0 y1 y2, LeO (scholiumlaw03_SpliceMerges.l0 k y0 y1 y2) (scholiumlaw03_SpliceMerges.l0 (k + 1) y0 y1 y2))
  | 0 => fun _ _ _ r h => by simp [scholiumlaw03_SpliceMerges.l0] at h
  | k + 1 => by
    have ih0 := scholiumlaw03_SpliceMerges.mono_l k
    · intro y0 y1 y2
      unfold scholiumlaw03_SpliceMerges.l0
      repeat' first
      | (with_reducible exact ih0 _ _ _)
      | (with_reducible exact scholiumlaw03_Splices.mono _ _ _ _)
      | (with_reducible exact LeO.refl _)
      | (with_reducible exact LeO.none _)
      | (with_reducible refine LeO.ite ?_ ?_)
      | (with_reducible refine LeO.bind ?_ (fun _ => ?_))
      | exact ih0 _ _ _
      | exact scholiumlaw03_Splices.mono _ _ _ _
      | exact LeO.none _
      | refine LeO.ite ?_ ?_
      | refine LeO.bind ?_ (fun _ => ?_)
theorem scholiumlaw03_SpliceMerges.mono : ∀ a0 k, LeO (scholiumlaw03_SpliceMerges.f k a0) (scholiumlaw03_SpliceMerges.f (k + 1) a0) := by
  intro a0 k
  have ih0 := scholiumlaw03_SpliceMerges.mono_l k
  unfold scholiumlaw03_SpliceMerges.f
  repeat' first
      | (with_reducible exact ih0 _ _ _)
      | (with_reducible exact scholiumlaw03_Splices.mono _ _ _ _)
      | (with_reducible exact LeO.refl _)
      | (with_reducible exact LeO.none _)
      | (with_reducible refine LeO.ite ?_ ?_)
      | (with_reducible refine LeO.bind ?_ (fun _ => ?_))
      | exact ih0 _ _ _
      | exact scholiumlaw03_Splices.mono _ _ _ _
      | exact LeO.none _
      | refine LeO.ite ?_ ?_
      | refine LeO.bind ?_ (fun _ => ?_)
def scholiumlaw03_SpliceMerges.T5 : Bool × List (List Nat × List Nat) := (true, [([], []), ([], []), ([], []), ([], []), ([], []), ([], []), ([4, 5], [4, 5]), ([6], [6]), ([7], [7]), ([8], [8]), ([], []), ([], []), ([10, 11], [10, 11]), ([12], [12]), ([13], [13]), ([14, 9], [14]), ([0, 1, 0, 1, 4, 5, 6, 7, 8, 9, 14, 15], [0, 1]), ([16, 0, 1, 4, 5, 6, 7, 8, 9, 14, 15], [16]), ([17, 9, 15, 0, 1, 4, 5, 6, 7, 8, 9, 14, 15], [9, 17]), ([2, 3, 0, 1, 2, 3, 4, 5, 6, 7, 8, 9, 10, 11, 12, 13, 14, 15, 16, 17, 18], [2, 3]), ([19, 0, 1, 2, 3, 4, 5, 6, 7, 8, 9, 10, 11, 12, 13, 14, 15, 16, 17, 18], [19]), ([20, 15, 18, 0, 1, 2, 3, 4, 5, 6, 7, 8, 9, 10, 11, 12, 13, 14, 15, 16, 17, 18], [15, 20])])
def scholiumlaw03_SpliceMerges.B5 : List Nat := [0, 0, 0, 0, 0, 0, 48, 112, 240, 496, 0, 0, 3072, 7168, 15360, 32752, 65523, 131059, 262131, 524287, 1048575, 2097151]
theorem scholiumlaw03_SpliceMerges.tab5 : rtab .any (opsOf Try.f7 5) = scholiumlaw03_SpliceMerges.T5 := by kernel_rfl
theorem scholiumlaw03_SpliceMerges.bits5 : waitsOk scholiumlaw03_SpliceMerges.T5.2 scholiumlaw03_SpliceMerges.B5 = true := by kernel_rfl
theorem law9 : Go.Maps.Keyed Try.prog 9 := Go.Maps.string_keyed Try.underlying9
theorem zero4 (w : World) : (zeroValue 4).run Try.prog w = .ok (.bool false) w := by kernel_rfl
/-- A row over a map's turn. -/
theorem R_map {w w1 : World} {base B : Nat} {v : Value} {xs : List S35} {es : Array MapEntry} {clock : Nat} (h : Kd.R k35 35 w base (fun _ => True) v xs) (hB : w.heap[B]? = some (.map es clock)) (hg : w.grownBy w1 (some B)) : Kd.R k35 35 w1 base (fun _ => True) v xs :=
  Kd.R_mono (Kd.R_step (Kd.R_bound h) (fun k hk hlt => hg.block k hlt (fun e => by
    injection e with e
    obtain ⟨_, _, _, q, _, cells, hc⟩ := hk
    rw [e, hB] at hc
    cases hc))) (fun _ _ => trivial)
/-- What has been seen ahead of place i. -/
def Seen (w : World) (B i : Nat) (m : List S35) : Prop := ∃ D : DataW Unit, w.ownsMap Try.prog 9 (plainElem Try.prog 4) B i D ∧ Go.Maps.IsMap D ∧ ∀ k, Go.Maps.has D k = true → ∃ q, q < i ∧ k = .string (m.getD q z35).f2.data.toList
theorem seen_made (w : World) (m : List S35) : Seen (w.alloc (.map #[] 0)) w.heap.size 0 m :=
  ⟨.map [], World.ownsMap_made w Try.prog 9 _, Go.Maps.isMap_empty, fun k h => by simp [Go.Maps.has] at h⟩
theorem seen_block {w : World} {B i : Nat} {m : List S35} (h : Seen w B i m) : ∃ es clock, w.heap[B]? = some (.map es clock) := by
  obtain ⟨D, ⟨es, clock, hb, _⟩, _⟩ := h
  exact ⟨es, clock, hb⟩
theorem seen_kept {w w1 : World} {B i : Nat} {m : List S35} (h : Seen w B i m) {row : Option Nat} (hg : w.grownBy w1 row) (hne : some B ≠ row) : Seen w1 B i m := by
  obtain ⟨D, ho, hm, hD⟩ := h
  exact ⟨D, ho.kept hg hne, hm, hD⟩
/-- One that has not been seen. -/
theorem seen_not {w : World} {B i : Nat} {m : List S35} (h : Seen w B i m) (tx : ByteArray) (hl : tx.size ≤ maxLen) (hn : ∀ q, q < i → (m.getD q z35).f2.data.toList ≠ tx.data.toList) :
    (Instr.lookup 43 (.map (some B)) (.string tx) false).run Try.prog w = .ok (.bool false) w := by
  obtain ⟨D, ⟨es, clock, hb, F, _, rfl⟩, _, hD⟩ := h
  rcases Go.Maps.fit_look false law9 Try.underlying43 (zero4 w) hb F (Go.WideMaps.keyOf_string_mk Try.underlying9 hl) with ⟨hrun, _, _⟩ | ⟨e0, y, _, _, hrun, hRv, hat, _⟩
  · exact hrun
  · obtain ⟨q, hq, he⟩ := hD _ (Go.Maps.has_true_of_atKey hat)
    injection he with he
    exact absurd he.symm (hn q hq)
/-- .. is seen then. -/
theorem seen_put {w w1 : World} {B i : Nat} {m : List S35} {D : DataW Unit} (tx : ByteArray) (htx : (m.getD i z35).f2 = tx) (hm : Go.Maps.IsMap D) (hD : ∀ k, Go.Maps.has D k = true → ∃ q, q < i ∧ k = .string (m.getD q z35).f2.data.toList)
    (h1 : w1.ownsMap Try.prog 9 (plainElem Try.prog 4) B (i + 1) (D.put (.string tx.data.toList) (.lit (.bool true)))) : Seen w1 B (i + 1) m := by
  refine ⟨_, h1, hm.put _ _, fun k hk => ?_⟩
  by_cases he : k = .string tx.data.toList
  · exact ⟨i, by omega, by rw [he, htx]⟩
  · rw [Go.Maps.has_put_other he] at hk
    obtain ⟨q, hq, e⟩ := hD k hk
    exact ⟨q, by omega, e⟩
/-- Cells of a block, stored one by one. -/
def setAll (w : World) (g : Nat) : Nat → List Value → World
  | _, [] => w
  | i, v :: vs => setAll (w.setCell ⟨g, i, none⟩ v) g (i + 1) vs
theorem below_setAll {w W : World} {g : Nat} (h : Below w.heap.size w W) (hg : w.heap.size ≤ g) : ∀ (i : Nat) (vs : List Value), Below w.heap.size w (setAll W g i vs) := by
  intro i vs
  induction vs generalizing i W with
  | nil => exact h
  | cons v vs ih => exact ih (below_set h hg) (i + 1)
theorem blk_setAll_other {w : World} {g k i : Nat} {o : Obj} {vs : List Value} (h : w.heap[k]? = some o) (hne : k ≠ g) : (setAll w g i vs).heap[k]? = some o := by
  induction vs generalizing i w with
  | nil => exact h
  | cons v vs ih => exact ih ((Below.heap_setCell w ⟨g, i, none⟩ v k hne).trans h)
def putAllC (cs : Array Value) : Nat → List Value → Array Value
  | _, [] => cs
  | i, v :: vs => putAllC (cs.setIfInBounds i v) (i + 1) vs
theorem blk_setAll {w : World} {g t : Nat} {cs : Array Value} (h : w.heap[g]? = some (.cells cs t (0, 0))) : ∀ (i : Nat) (vs : List Value), (setAll w g i vs).heap[g]? = some (.cells (putAllC cs i vs) t (0, 0)) := by
  intro i vs
  induction vs generalizing i w cs with
  | nil => exact h
  | cons v vs ih => exact ih (blk_set h i v) (i + 1)
theorem less_tags0 : ∀ a b : Nat, a < 6 → b < 6 → a < b → Op.bytesLess (strOfNums [97 + (a : Int)]).data.toList (strOfNums [97 + (b : Int)]).data.toList = true := by
  intro a b ha hb h
  match a, b, ha, hb with
  | 0, 0, _, _ => omega
  | 0, 1, _, _ => rfl
  | 0, 2, _, _ => rfl
  | 0, 3, _, _ => rfl
  | 0, 4, _, _ => rfl
  | 0, 5, _, _ => rfl
  | 1, 0, _, _ => omega
  | 1, 1, _, _ => omega
  | 1, 2, _, _ => rfl
  | 1, 3, _, _ => rfl
  | 1, 4, _, _ => rfl
  | 1, 5, _, _ => rfl
  | 2, 0, _, _ => omega
  | 2, 1, _, _ => omega
  | 2, 2, _, _ => omega
  | 2, 3, _, _ => rfl
  | 2, 4, _, _ => rfl
  | 2, 5, _, _ => rfl
  | 3, 0, _, _ => omega
  | 3, 1, _, _ => omega
  | 3, 2, _, _ => omega
  | 3, 3, _, _ => omega
  | 3, 4, _, _ => rfl
  | 3, 5, _, _ => rfl
  | 4, 0, _, _ => omega
  | 4, 1, _, _ => omega
  | 4, 2, _, _ => omega
  | 4, 3, _, _ => omega
  | 4, 4, _, _ => omega
  | 4, 5, _, _ => rfl
  | 5, 0, _, _ => omega
  | 5, 1, _, _ => omega
  | 5, 2, _, _ => omega
  | 5, 3, _, _ => omega
  | 5, 4, _, _ => omega
  | 5, 5, _, _ => omega
theorem less_tags (a b : Fin 6) (h : a < b) : Op.bytesLess (strOfNums [97 + ((a.1 : Nat) : Int)]).toList (strOfNums [97 + ((b.1 : Nat) : Int)]).toList = true := by
  rw [ByteArray.toList_eq, ByteArray.toList_eq]
  exact less_tags0 a.1 b.1 a.2 b.2 h
theorem seen_below {w w1 : World} {B i : Nat} {m : List S35} (h : Seen w B i m) (hb : Below w.heap.size w w1) : Seen w1 B i m := by
  obtain ⟨D, ho, hm, hD⟩ := h
  have hlt := ho.lt
  obtain ⟨es, clock, hk, F, hs, hDD⟩ := ho
  exact ⟨D, ⟨es, clock, (hb.block B hlt).trans hk, F, hs, hDD⟩, hm, hD⟩
def merges_T19 : Bool × List (List Nat × List Nat) := (true, [([], []), ([], []), ([1], [1]), ([0, 2], [0, 2]), ([3], [3]), ([], []), ([], []), ([5, 6], [5, 6]), ([7], [7]), ([], []), ([], []), ([9, 4, 0, 1, 2, 3, 4, 9, 10], [4, 9]), ([10, 8, 11, 0, 1, 2, 3, 4, 5, 6, 7, 8, 9, 10, 11], [8, 10])])
def merges_B19 : List Nat := [0, 0, 2, 7, 15, 0, 0, 96, 224, 0, 0, 1567, 4095]
theorem merges_tab19 : rtab .any (opsOf Try.f7 19) = merges_T19 := by kernel_rfl
theorem merges_bits19 : waitsOk merges_T19.2 merges_B19 = true := by kernel_rfl

set_option maxHeartbeats 16000000 in
set_option maxRecDepth 1000000 in
theorem merges_walk (k : Nat) (A0 : Option Addr) (c0 : Nat) (l0 : List S35) (r : List S35) (w : World) (hr0 : Kd.C k35 w A0 l0.length l0) (hc0 : l0.length ≤ c0) (h : scholiumlaw03_SpliceMerges.f k l0 = some r) (htold : Told r) :
    Calls Try.prog 7 #[.slice A0 l0.length c0] w fun e w' => e = .returned (.bool true) ∧ Below w.heap.size w w' := by
  have HTOLD := Aside0.mk htold
  clear htold
  have hmm := @run_makeMap Try.prog
  have HR0 := Aside0.mk hr0
  have HC0 := Aside0.mk hc0
  clear hr0 hc0
  have HB := Aside0.mk (Below.refl w.heap.size w)
  have H : ((scholiumlaw03_Splices.f k l0 30 true).bind fun t128 => (scholiumlaw03_SpliceMerges.l0 k t128 (t128.length : Int) 0)) = some r := h
  clear h
  replace H := Option.bind_eq_some_iff.mp H
  obtain ⟨t128, A20, H⟩ := H
  replace H : (scholiumlaw03_SpliceMerges.l0 k t128 (t128.length : Int) 0) = some r := H
  have A2 := Aside0.mk A20
  clear A20
  have H' := Aside0.mk H
  clear H
  go_enter Try.func7, Try.ntmps7
  go_wp2_with (first | ((with_reducible refine gate_callee (f := 21) rfl ?_); refine goesL_ (some 11) rfl rfl Try.func21 (by kernel_rfl) rfl #[.slice A0 l0.length c0, .int .i64 30, .bool true] rfl (by (try simp only [List.map_toArray, List.map_cons, List.map_nil]); first | done | rfl | (simp only [List.length_drop, List.length_take]; rfl)) ?_; (with_reducible refine (scholiumlaw03_Splices.calls k _ _ l0 30 true t128 _ ?side1 ?side2 A2.out).mono ?_); (case side1 => repeat (first | exact HR0.out | (with_reducible refine Kd.C_alloc ?_ _) | (with_reducible refine Kd.C_drewN ?_ _) | (with_reducible refine Kd.C_drew ?_))); (case side2 => exact HC0.out); rintro e w3 ⟨v129, rfl, ho0, hb⟩; refine ⟨_, rfl, ?_⟩; have n0_ := Aside0.mk (Kd.R_lower ho0 (below_size (by repeat (first | (with_reducible first | exact HB.out | apply below_alloc | apply pw_below_drewN | apply below_drew1) | exact HB.out)))); have n1_ := Aside0.mk (below_step (by repeat (first | (with_reducible first | exact HB.out | apply below_alloc | apply pw_below_drewN | apply below_drew1) | exact HB.out)) hb); clear HB; have HO130 := n0_; have HB := n1_; clear n0_ n1_; (try clear hb); (try clear hb2); (try clear hk); (try clear hi); (try clear ho0); obtain ⟨Ao4, co4, eo4⟩ := Kd.R_slice HO130.out; subst eo4))
  go_loopg [14] k (fun kq v14 w' => ∃ (x3_1 : List (S35)) (x14_1 : Int), v14 = .int .i64 x14_1 ∧ Aside0 (scholiumlaw03_SpliceMerges.l0 kq x3_1 (t128.length : Int) x14_1 = some r) ∧ Aside0 (kq ≤ k) ∧ Aside0 (Kd.R k35 35 w' w.heap.size (fun _ => True) (.slice Ao4 t128.length co4) x3_1) ∧ Aside0 (Below w.heap.size w w'))
  case atStart => exact ⟨(t128), (0), (by first | rfl | (simp; done) | (simp [*]; done)), H', ⟨Nat.le_refl _⟩, ⟨by (with_reducible repeat (first | apply Kd.R_alloc | apply Kd.R_drewN | apply Kd.R_drew)); exact HO130.out⟩, ⟨by repeat (first | (with_reducible first | exact HB.out | apply below_alloc | apply pw_below_drewN | apply below_drew1) | exact HB.out)⟩⟩
  case round =>
    clear H'
    try clear c2
    try clear p2
    obtain ⟨x3_1, x14_1, rfl, HA, HK1, HO_3, HB⟩ := hrel
    have hl3_1 := (Kd.R_reads' HO_3.out).1
    rw [hl3_1] at HO_3
    (try simp only [hl3_1])
    cases gk with
    | zero => exact absurd HA.out (by simp [scholiumlaw03_SpliceMerges.l0])
    | succ k1 =>
      have H := HA.out
      clear HA
      simp only [scholiumlaw03_SpliceMerges.l0] at H
      by_cases c5 : x14_1 < (t128.length : Int)
      · rw [if_pos c5] at H
        have c5b0 : decide (x14_1 < (t128.length : Int)) = true := decide_eq_true c5
        clear c5
        by_cases c6 : 0 ≤ x14_1
        · rw [if_pos c6] at H
          have c6b0 : decide (0 ≤ x14_1) = true := decide_eq_true c6
          clear c6
          by_cases c7 : x14_1 < (x3_1.length : Int)
          · rw [if_pos c7] at H
            have c7b0 : decide (x14_1 < (x3_1.length : Int)) = true := decide_eq_true c7
            clear c7
            replace H := Option.bind_eq_some_iff.mp H
            obtain ⟨t132, A80, H⟩ := H
            replace H : ((scholiumkeep_Within.f ((rd_T35 x3_1 x14_1).f1) 4).bind fun t134 => ((some (x3_1.set (x14_1 : Int).toNat (⟨t132, (rd_T35 x3_1 x14_1).f1, (rd_T35 x3_1 x14_1).f2⟩ : S35) : List (S35))).bind fun y135 => ((some (y135.set (x14_1 : Int).toNat (⟨(rd_T35 y135 x14_1).f0, t134, (rd_T35 y135 x14_1).f2⟩ : S35) : List (S35))).bind fun y136 => (scholiumlaw03_SpliceMerges.l0 k1 (y136.set (x14_1 : Int).toNat (⟨(rd_T35 y136 x14_1).f0, (rd_T35 y136 x14_1).f1, strOfNums (([(wrap64 (97 + x14_1)) % 256] : List Int))⟩ : S35)) (t128.length : Int) (wrap64 (x14_1 + 1)))))) = some r := H
            have A8 := Aside0.mk A80
            clear A80
            replace H := Option.bind_eq_some_iff.mp H
            obtain ⟨t134, A90, H⟩ := H
            replace H : ((some (x3_1.set (x14_1 : Int).toNat (⟨t132, (rd_T35 x3_1 x14_1).f1, (rd_T35 x3_1 x14_1).f2⟩ : S35) : List (S35))).bind fun y135 => ((some (y135.set (x14_1 : Int).toNat (⟨(rd_T35 y135 x14_1).f0, t134, (rd_T35 y135 x14_1).f2⟩ : S35) : List (S35))).bind fun y136 => (scholiumlaw03_SpliceMerges.l0 k1 (y136.set (x14_1 : Int).toNat (⟨(rd_T35 y136 x14_1).f0, (rd_T35 y136 x14_1).f1, strOfNums (([(wrap64 (97 + x14_1)) % 256] : List Int))⟩ : S35)) (t128.length : Int) (wrap64 (x14_1 + 1))))) = some r := H
            have A9 := Aside0.mk A90
            clear A90
            obtain ⟨y135, hy135⟩ : ∃ y_ : List (S35), y_ = (x3_1.set (x14_1 : Int).toNat (⟨t132, (rd_T35 x3_1 x14_1).f1, (rd_T35 x3_1 x14_1).f2⟩ : S35)) := ⟨_, rfl⟩
            replace H : ((some (y135.set (x14_1 : Int).toNat (⟨(rd_T35 y135 x14_1).f0, t134, (rd_T35 y135 x14_1).f2⟩ : S35) : List (S35))).bind fun y136 => (scholiumlaw03_SpliceMerges.l0 k1 (y136.set (x14_1 : Int).toNat (⟨(rd_T35 y136 x14_1).f0, (rd_T35 y136 x14_1).f1, strOfNums (([(wrap64 (97 + x14_1)) % 256] : List Int))⟩ : S35)) (t128.length : Int) (wrap64 (x14_1 + 1)))) = some r := by first | (rw [hy135]; with_reducible exact H) | (have H2_ := (Option.bind_some _ _).symm.trans H; rw [hy135]; with_reducible exact H2_) | (have H2_ := (Option.bind_some _ _).symm.trans H; with_reducible exact H2_) | with_reducible exact H | (rw [hy135]; exact H) | exact H
            have Ny135 := Aside0.mk hy135
            clear hy135
            obtain ⟨y136, hy136⟩ : ∃ y_ : List (S35), y_ = (y135.set (x14_1 : Int).toNat (⟨(rd_T35 y135 x14_1).f0, t134, (rd_T35 y135 x14_1).f2⟩ : S35)) := ⟨_, rfl⟩
            replace H : (scholiumlaw03_SpliceMerges.l0 k1 (y136.set (x14_1 : Int).toNat (⟨(rd_T35 y136 x14_1).f0, (rd_T35 y136 x14_1).f1, strOfNums (([(wrap64 (97 + x14_1)) % 256] : List Int))⟩ : S35)) (t128.length : Int) (wrap64 (x14_1 + 1))) = some r := by first | (rw [hy136]; with_reducible exact H) | (have H2_ := (Option.bind_some _ _).symm.trans H; rw [hy136]; with_reducible exact H2_) | (have H2_ := (Option.bind_some _ _).symm.trans H; with_reducible exact H2_) | with_reducible exact H | (rw [hy136]; exact H) | exact H
            have Ny136 := Aside0.mk hy136
            clear hy136
            obtain ⟨y137, hy137⟩ : ∃ y_ : List Int, y_ = (([(wrap64 (97 + x14_1)) % 256] : List Int)) := ⟨_, rfl⟩
            replace H : (scholiumlaw03_SpliceMerges.l0 k1 (y136.set (x14_1 : Int).toNat (⟨(rd_T35 y136 x14_1).f0, (rd_T35 y136 x14_1).f1, strOfNums y137⟩ : S35)) (t128.length : Int) (wrap64 (x14_1 + 1))) = some r := by first | (rw [hy137]; with_reducible exact H) | (have H2_ := (Option.bind_some _ _).symm.trans H; rw [hy137]; with_reducible exact H2_) | (have H2_ := (Option.bind_some _ _).symm.trans H; with_reducible exact H2_) | with_reducible exact H | (rw [hy137]; exact H) | exact H
            have Ny137 := Aside0.mk hy137
            clear hy137
            obtain ⟨y140, hy140⟩ : ∃ y_ : List (S35), y_ = (y136.set (x14_1 : Int).toNat (⟨(rd_T35 y136 x14_1).f0, (rd_T35 y136 x14_1).f1, strOfNums y137⟩ : S35)) := ⟨_, rfl⟩
            replace H : (scholiumlaw03_SpliceMerges.l0 k1 y140 (t128.length : Int) (wrap64 (x14_1 + 1))) = some r := by first | (rw [hy140]; with_reducible exact H) | (have H2_ := (Option.bind_some _ _).symm.trans H; rw [hy140]; with_reducible exact H2_) | (have H2_ := (Option.bind_some _ _).symm.trans H; with_reducible exact H2_) | with_reducible exact H | (rw [hy140]; exact H) | exact H
            have Ny140 := Aside0.mk hy140
            clear hy140
            have H' := Aside0.mk H
            clear H
            try go_wp2
            have n0_ := Aside0.mk (Kd.R_drew HO_3.out)
            have n1_ := Aside0.mk (below_drew1 HB.out)
            clear HO_3
            clear HB
            have HO_3 := n0_
            have HB := n1_
            clear n0_ n1_
            have p131 : 0 ≤ (x14_1 : Int) := of_decide_eq_true (by first | (with_reducible assumption) | assumption)
            have q131 : x14_1 < (x3_1.length : Int) := of_decide_eq_true (by first | (with_reducible assumption) | assumption)
            obtain ⟨ad131, e131, hx131_0, hx131_1, hx131_2⟩ := at_T35 (Kd.R_reads' HO_3.out).2.2 x14_1 p131 q131
            cases e131
            replace p131 := eq_true p131
            replace q131 := eq_true q131
            have p133 : 0 ≤ (x14_1 : Int) := of_decide_eq_true (by first | (with_reducible assumption) | assumption)
            have q133 : x14_1 < (x3_1.length : Int) := of_decide_eq_true (by first | (with_reducible assumption) | assumption)
            obtain ⟨ad133, e133, hx133_0, hx133_1, hx133_2⟩ := at_T35 (Kd.R_reads' HO_3.out).2.2 x14_1 p133 q133
            obtain rfl : ad131 = ad133 := (by injection e133)
            replace p133 := eq_true p133
            replace q133 := eq_true q133
            refine start_ (n := 22) (S := fun w' => w'.cell? (ad131.add ((x14_1).toNat * 3)) = some (.int .i64 ((rd_T35 x3_1 x14_1).f0)) ∧ w'.cell? ⟨(ad131.add ((x14_1).toNat * 3)).block, (ad131.add ((x14_1).toNat * 3)).off + 1, none⟩ = some (.int .i64 ((rd_T35 x3_1 x14_1).f1)) ∧ w'.cell? ⟨(ad131.add ((x14_1).toNat * 3)).block, (ad131.add ((x14_1).toNat * 3)).off + 2, none⟩ = some (.string ((rd_T35 x3_1 x14_1).f2)) ∧ w'.cell? (ad131.add ((x14_1).toNat * 3)) = some (.int .i64 ((rd_T35 x3_1 x14_1).f0)) ∧ w'.cell? ⟨(ad131.add ((x14_1).toNat * 3)).block, (ad131.add ((x14_1).toNat * 3)).off + 1, none⟩ = some (.int .i64 ((rd_T35 x3_1 x14_1).f1)) ∧ w'.cell? ⟨(ad131.add ((x14_1).toNat * 3)).block, (ad131.add ((x14_1).toNat * 3)).off + 2, none⟩ = some (.string ((rd_T35 x3_1 x14_1).f2))) (ds := [18, 21]) #[false, false, false, false, false, false, false, false, false, false, false, false, false, false, false, false, false, false, false, false, false, false] (by kernel_rfl) rfl rfl ⟨hx131_0, hx131_1, hx131_2, hx133_0, hx133_1, hx133_2⟩ (fun hHeld => ?_); refine with_tabW scholiumlaw03_SpliceMerges.tab5 scholiumlaw03_SpliceMerges.bits5 (fun HT_ HW_ => ?_)
            generalize wr.drew = w13 at HO_3 HB hx131_0 hx131_1 hx131_2 hx133_0 hx133_1 hx133_2 hHeld ⊢
            refine pure_ (i := 0) (N := some 17) (v := ?_) (a' := ?_) #[true, false, false, false, false, false, false, false, false, false, false, false, false, false, false, false, false, false, false, false, false, false] rfl rfl (any_of HT_.out (by kernel_rfl)) (fun _ _ _ h => h) (Or.inl ⟨by rfl, ?_⟩) ?_ ?_
            rotate_left
            · intro w'
              go_simp
              with_reducible rfl
            rotate_left
            · simp only [Act.put, List.setIfInBounds_toArray, List.set_cons_zero, List.set_cons_succ, i64_w, i32_w]
              rfl
            refine pure_ (i := 1) (N := some 18) (v := ?_) (a' := ?_) #[true, true, false, false, false, false, false, false, false, false, false, false, false, false, false, false, false, false, false, false, false, false] rfl rfl (any_of HT_.out (by kernel_rfl)) (fun _ _ _ h => h) (Or.inl ⟨by rfl, ?_⟩) ?_ ?_
            rotate_left
            · intro w'
              go_simp
              with_reducible rfl
            rotate_left
            · simp only [Act.put, List.setIfInBounds_toArray, List.set_cons_zero, List.set_cons_succ, i64_w, i32_w]
              rfl
            refine pure_ (i := 2) (N := some 19) (v := ?_) (a' := ?_) #[true, true, true, false, false, false, false, false, false, false, false, false, false, false, false, false, false, false, false, false, false, false] rfl rfl (any_of HT_.out (by kernel_rfl)) (fun _ _ _ h => h) (Or.inl ⟨by rfl, ?_⟩) ?_ ?_
            rotate_left
            · intro w'
              go_simp
              with_reducible rfl
            rotate_left
            · simp only [Act.put, List.setIfInBounds_toArray, List.set_cons_zero, List.set_cons_succ, i64_w, i32_w]
              rfl
            refine pure_ (i := 3) (N := some 20) (v := ?_) (a' := ?_) #[true, true, true, true, false, false, false, false, false, false, false, false, false, false, false, false, false, false, false, false, false, false] rfl rfl (any_of HT_.out (by kernel_rfl)) (fun _ _ _ h => h) (Or.inl ⟨by rfl, ?_⟩) ?_ ?_
            rotate_left
            · intro w'
              go_simp
              with_reducible rfl
            rotate_left
            · simp only [Act.put, List.setIfInBounds_toArray, List.set_cons_zero, List.set_cons_succ, i64_w, i32_w]
              rfl
            refine pure_ (i := 4) (N := some 21) (v := ?_) (a' := ?_) #[true, true, true, true, true, false, false, false, false, false, false, false, false, false, false, false, false, false, false, false, false, false] rfl rfl (any_of HT_.out (by kernel_rfl)) (fun _ _ _ h => h) (Or.inl ⟨by rfl, ?_⟩) ?_ ?_
            rotate_left
            · intro w'
              go_simp
              with_reducible rfl
            rotate_left
            · simp only [Act.put, List.setIfInBounds_toArray, List.set_cons_zero, List.set_cons_succ, i64_w, i32_w]
              rfl
            refine pure_ (i := 5) (N := some 22) (v := ?_) (a' := ?_) #[true, true, true, true, true, true, false, false, false, false, false, false, false, false, false, false, false, false, false, false, false, false] rfl rfl (any_of HT_.out (by kernel_rfl)) (fun _ _ _ h => h) (Or.inl ⟨by rfl, ?_⟩) ?_ ?_
            rotate_left
            · intro w'
              go_simp
              with_reducible rfl
            rotate_left
            · simp only [Act.put, List.setIfInBounds_toArray, List.set_cons_zero, List.set_cons_succ, i64_w, i32_w]
              rfl
            refine pure_ (i := 6) (N := some 23) (v := ?_) (a' := ?_) #[true, true, true, true, true, true, true, false, false, false, false, false, false, false, false, false, false, false, false, false, false, false] rfl rfl (any_of HT_.out (by kernel_rfl)) (fun _ _ _ h => h) (Or.inl ⟨by rfl, ?_⟩) ?_ ?_
            rotate_left
            · intro w'
              go_simp
              with_reducible rfl
            rotate_left
            · simp only [Act.put, List.setIfInBounds_toArray, List.set_cons_zero, List.set_cons_succ, i64_w, i32_w]
              rfl
            refine pure_ (i := 7) (N := some 24) (v := ?_) (a' := ?_) #[true, true, true, true, true, true, true, true, false, false, false, false, false, false, false, false, false, false, false, false, false, false] rfl rfl (any_of HT_.out (by kernel_rfl)) (fun _ _ _ h => h) (Or.inl ⟨by rfl, ?_⟩) ?_ ?_
            rotate_left
            · intro w'
              go_simp
              with_reducible rfl
            rotate_left
            · simp only [Act.put, List.setIfInBounds_toArray, List.set_cons_zero, List.set_cons_succ, i64_w, i32_w]
              rfl
            refine pure_ (i := 10) (N := some 27) (v := ?_) (a' := ?_) #[true, true, true, true, true, true, true, true, false, false, true, false, false, false, false, false, false, false, false, false, false, false] rfl rfl (any_of HT_.out (by kernel_rfl)) (fun _ _ _ h => h) (Or.inl ⟨by rfl, ?_⟩) ?_ ?_
            rotate_left
            · intro w'
              go_simp
              with_reducible rfl
            rotate_left
            · simp only [Act.put, List.setIfInBounds_toArray, List.set_cons_zero, List.set_cons_succ, i64_w, i32_w]
              rfl
            refine pure_ (i := 11) (N := some 28) (v := ?_) (a' := ?_) #[true, true, true, true, true, true, true, true, false, false, true, true, false, false, false, false, false, false, false, false, false, false] rfl rfl (any_of HT_.out (by kernel_rfl)) (fun _ _ _ h => h) (Or.inl ⟨by rfl, ?_⟩) ?_ ?_
            rotate_left
            · intro w'
              go_simp
              with_reducible rfl
            rotate_left
            · simp only [Act.put, List.setIfInBounds_toArray, List.set_cons_zero, List.set_cons_succ, i64_w, i32_w]
              rfl
            refine pure_ (i := 12) (N := some 29) (v := ?_) (a' := ?_) #[true, true, true, true, true, true, true, true, false, false, true, true, true, false, false, false, false, false, false, false, false, false] rfl rfl (any_of HT_.out (by kernel_rfl)) (fun _ _ _ h => h) (Or.inl ⟨by rfl, ?_⟩) ?_ ?_
            rotate_left
            · intro w'
              go_simp
              with_reducible rfl
            rotate_left
            · simp only [Act.put, List.setIfInBounds_toArray, List.set_cons_zero, List.set_cons_succ, i64_w, i32_w]
              rfl
            refine pure_ (i := 13) (N := some 30) (v := ?_) (a' := ?_) #[true, true, true, true, true, true, true, true, false, false, true, true, true, true, false, false, false, false, false, false, false, false] rfl rfl (any_of HT_.out (by kernel_rfl)) (fun _ _ _ h => h) (Or.inl ⟨by rfl, ?_⟩) ?_ ?_
            rotate_left
            · intro w'
              go_simp
              with_reducible rfl
            rotate_left
            · simp only [Act.put, List.setIfInBounds_toArray, List.set_cons_zero, List.set_cons_succ, i64_w, i32_w]
              rfl
            refine take_ (i := 8) (N := some 25) (v := ?_) (a' := ?_) #[true, true, true, true, true, true, true, true, true, false, true, true, true, true, false, false, false, false, false, false, false, false] rfl rfl (take_ofW HT_.out HW_.out (by kernel_rfl)) (fun _ _ _ h => h) (Or.inl ⟨by rfl, ?_⟩) hHeld ?_ ?_
            rotate_left
            · rintro w' ⟨s0, s1, s2, s3, s4, s5⟩
              go_simp
              with_reducible rfl
            rotate_left
            · simp only [Act.put, List.setIfInBounds_toArray, List.set_cons_zero, List.set_cons_succ, i64_w, i32_w]
              rfl
            refine take_ (i := 14) (N := some 31) (v := ?_) (a' := ?_) #[true, true, true, true, true, true, true, true, true, false, true, true, true, true, true, false, false, false, false, false, false, false] rfl rfl (take_ofW HT_.out HW_.out (by kernel_rfl)) (fun _ _ _ h => h) (Or.inl ⟨by rfl, ?_⟩) hHeld ?_ ?_
            rotate_left
            · rintro w' ⟨s0, s1, s2, s3, s4, s5⟩
              go_simp
              with_reducible rfl
            rotate_left
            · simp only [Act.put, List.setIfInBounds_toArray, List.set_cons_zero, List.set_cons_succ, i64_w, i32_w]
              rfl
            refine one_ (i := 9) (N := some 26) #[true, true, true, true, true, true, true, true, true, true, true, true, true, true, true, false, false, false, false, false, false, false] rfl rfl (one_of HT_.out (by kernel_rfl)) (by decide) (fun K hK => ?_)
            refine goes_ Try.func17 (by kernel_rfl) rfl #[.int .i64 ((rd_T35 x3_1 x14_1).f0), .int .i64 4] (by rfl) rfl rfl (by (try simp only [List.map_toArray, List.map_cons, List.map_nil]); first | done | rfl | (simp only [List.length_drop, List.length_take]; rfl)) ?_
            with_reducible refine (scholiumkeep_Within.calls ((rd_T35 x3_1 x14_1).f0) 4 t132 _ A8.out).mono ?_
            rintro e w14 ⟨rfl, hb⟩
            have HS0_ := (hb.cell (World.block_lt_of_cell? _ _ (hHeld.1))).trans (hHeld.1)
            have HS1_ := (hb.cell (World.block_lt_of_cell? _ _ (hHeld.2.1))).trans (hHeld.2.1)
            have HS2_ := (hb.cell (World.block_lt_of_cell? _ _ (hHeld.2.2.1))).trans (hHeld.2.2.1)
            have HS3_ := (hb.cell (World.block_lt_of_cell? _ _ (hHeld.2.2.2.1))).trans (hHeld.2.2.2.1)
            have HS4_ := (hb.cell (World.block_lt_of_cell? _ _ (hHeld.2.2.2.2.1))).trans (hHeld.2.2.2.2.1)
            have HS5_ := (hb.cell (World.block_lt_of_cell? _ _ (hHeld.2.2.2.2.2))).trans (hHeld.2.2.2.2.2)
            refine ⟨_, rfl, ?_⟩
            have n0_ := Aside0.mk (Kd.R_below (by (with_reducible repeat (first | apply Kd.R_alloc | apply Kd.R_drewN | apply Kd.R_drew)); exact HO_3.out) hb)
            have n1_ := Aside0.mk (below_step (by repeat (first | (with_reducible first | exact HB.out | apply below_alloc | apply pw_below_drewN | apply below_drew1) | exact HB.out)) hb)
            clear HO_3
            clear HB
            have HO_3 := n0_
            have HB := n1_
            clear n0_ n1_
            (try clear hb)
            (try clear hb2)
            (try clear hk)
            (try clear hi)
            refine hK.out _ _ ⟨HS0_, HS1_, HS2_, HS3_, HS4_, HS5_⟩ (fun hHeld => ?_)
            clear hK K
            refine norm_ (a' := ?_) ?_ ?_
            rotate_left
            · show Act.put _ (some 26) _ = _
              simp only [Act.put, List.setIfInBounds_toArray, List.set_cons_zero, List.set_cons_succ, i64_w, i32_w]
              rfl
            refine one_ (i := 15) (N := some 32) #[true, true, true, true, true, true, true, true, true, true, true, true, true, true, true, true, false, false, false, false, false, false] rfl rfl (one_of HT_.out (by kernel_rfl)) (by decide) (fun K hK => ?_)
            refine goes_ Try.func17 (by kernel_rfl) rfl #[.int .i64 ((rd_T35 x3_1 x14_1).f1), .int .i64 4] (by rfl) rfl rfl (by (try simp only [List.map_toArray, List.map_cons, List.map_nil]); first | done | rfl | (simp only [List.length_drop, List.length_take]; rfl)) ?_
            with_reducible refine (scholiumkeep_Within.calls ((rd_T35 x3_1 x14_1).f1) 4 t134 _ A9.out).mono ?_
            rintro e w15 ⟨rfl, hb⟩
            have HS0_ := (hb.cell (World.block_lt_of_cell? _ _ (hHeld.1))).trans (hHeld.1)
            have HS1_ := (hb.cell (World.block_lt_of_cell? _ _ (hHeld.2.1))).trans (hHeld.2.1)
            have HS2_ := (hb.cell (World.block_lt_of_cell? _ _ (hHeld.2.2.1))).trans (hHeld.2.2.1)
            have HS3_ := (hb.cell (World.block_lt_of_cell? _ _ (hHeld.2.2.2.1))).trans (hHeld.2.2.2.1)
            have HS4_ := (hb.cell (World.block_lt_of_cell? _ _ (hHeld.2.2.2.2.1))).trans (hHeld.2.2.2.2.1)
            have HS5_ := (hb.cell (World.block_lt_of_cell? _ _ (hHeld.2.2.2.2.2))).trans (hHeld.2.2.2.2.2)
            refine ⟨_, rfl, ?_⟩
            have n0_ := Aside0.mk (Kd.R_below (by (with_reducible repeat (first | apply Kd.R_alloc | apply Kd.R_drewN | apply Kd.R_drew)); exact HO_3.out) hb)
            have n1_ := Aside0.mk (below_step (by repeat (first | (with_reducible first | exact HB.out | apply below_alloc | apply pw_below_drewN | apply below_drew1) | exact HB.out)) hb)
            clear HO_3
            clear HB
            have HO_3 := n0_
            have HB := n1_
            clear n0_ n1_
            (try clear hb)
            (try clear hb2)
            (try clear hk)
            (try clear hi)
            have p10 : 0 ≤ (x14_1 : Int) := of_decide_eq_true (by first | (with_reducible assumption) | assumption)
            have q10 : (x14_1 : Int) < ((x3_1.length : Int) : Int) := of_decide_eq_true (by first | (with_reducible assumption) | assumption)
            obtain ⟨go10, co10, eo10, gb10, gl10, cl10, HG10⟩ := Kd.R_form HO_3.out (by omega)
            (first | cases eo10 | (injection eo10 with ea_ en_ ec_; (first | subst ea_ | (injection ea_ with ea_; subst ea_)); subst ec_; clear en_))
            have GB10 := Aside0.mk gb10
            have GG10 := Aside0.mk HG10
            clear gb10 gl10 HG10
            (first | simp only [add_plain] at hx131_0 | skip)
            (first | simp only [add_plain] at hx131_1 | skip)
            (first | simp only [add_plain] at hx131_2 | skip)
            (first | simp only [add_plain] at hx133_0 | skip)
            (first | simp only [add_plain] at hx133_1 | skip)
            (first | simp only [add_plain] at hx133_2 | skip)
            obtain ⟨ce10, hcl10, hM10, hcc10, hfr10⟩ := Kd.R_elem HO_3.out z35 (x14_1 : Int) p10 q10
            obtain rfl := k35_openM hM10
            have hx10_0 : World.cell? _ ⟨go10, (x14_1 : Int).toNat * 3, none⟩ = some (.int .i64 ((rd_T35 x3_1 x14_1).f0)) := hcc10 0 _ rfl
            have hx10_1 : World.cell? _ ⟨go10, (x14_1 : Int).toNat * 3 + 1, none⟩ = some (.int .i64 ((rd_T35 x3_1 x14_1).f1)) := hcc10 1 _ rfl
            have hx10_2 : World.cell? _ ⟨go10, (x14_1 : Int).toNat * 3 + 2, none⟩ = some (.string ((rd_T35 x3_1 x14_1).f2)) := hcc10 2 _ rfl
            have hf10_0 : World.frozen? _ ⟨go10, (x14_1 : Int).toNat * 3, none⟩ = false := hfr10 0
            have hf10_1 : World.frozen? _ ⟨go10, (x14_1 : Int).toNat * 3 + 1, none⟩ = false := hfr10 1
            have hf10_2 : World.frozen? _ ⟨go10, (x14_1 : Int).toNat * 3 + 2, none⟩ = false := hfr10 2
            clear hcl10 hcc10 hfr10 hM10
            replace p10 := eq_true p10
            replace q10 := eq_true q10
            obtain ⟨ce16, hcl16, hM16, hcc16, hfr16⟩ := Kd.R_elem HO_3.out z35 (x14_1 : Int) (of_decide_eq_true (by first | (with_reducible assumption) | assumption)) (by have h_ : (x14_1 : Int) < ((x3_1.length : Int) : Int) := of_decide_eq_true (by first | (with_reducible assumption) | assumption); first | exact h_ | (have e_ := (Kd.R_reads' HO_3.out).1; omega) | simpa using h_)
            obtain rfl := k35_openM hM16
            have HP16 := (Kd.R_seg HO_3.out (x14_1 : Int) (of_decide_eq_true (by first | (with_reducible assumption) | assumption)) (by have h_ : (x14_1 : Int) < ((x3_1.length : Int) : Int) := of_decide_eq_true (by first | (with_reducible assumption) | assumption); first | exact h_ | (have e_ := (Kd.R_reads' HO_3.out).1; omega) | simpa using h_) (seg := [.int .i64 t132]) (j := 0) hcl16 hcc16 (show 1 ≤ 3 from by decide) (x' := (⟨t132, (rd_T35 x3_1 x14_1).f1, (rd_T35 x3_1 x14_1).f2⟩ : S35)) (k35_mkM _ _ _ (⟨t132, (rd_T35 x3_1 x14_1).f1, (rd_T35 x3_1 x14_1).f2⟩ : S35) ) (fun _ hk => hk)).1
            rw [← Ny135.out] at HP16
            have HQ16 := Aside0.mk HP16
            clear hcl16 hcc16 hfr16 hM16 HP16
            have p11 : 0 ≤ (x14_1 : Int) := of_decide_eq_true (by first | (with_reducible assumption) | assumption)
            have q11 : (x14_1 : Int) < ((x3_1.length : Int) : Int) := of_decide_eq_true (by first | (with_reducible assumption) | assumption)
            replace p11 := eq_true p11
            replace q11 := eq_true q11
            obtain ⟨ce17, hcl17, hM17, hcc17, hfr17⟩ := Kd.R_elem HQ16.out z35 (x14_1 : Int) (of_decide_eq_true (by first | (with_reducible assumption) | assumption)) (by have h_ : (x14_1 : Int) < ((x3_1.length : Int) : Int) := of_decide_eq_true (by first | (with_reducible assumption) | assumption); first | exact h_ | (have e_ := (Kd.R_reads' HO_3.out).1; omega) | simpa using h_)
            obtain rfl := k35_openM hM17
            have HP17 := (Kd.R_seg HQ16.out (x14_1 : Int) (of_decide_eq_true (by first | (with_reducible assumption) | assumption)) (by have h_ : (x14_1 : Int) < ((x3_1.length : Int) : Int) := of_decide_eq_true (by first | (with_reducible assumption) | assumption); first | exact h_ | (have e_ := (Kd.R_reads' HO_3.out).1; omega) | simpa using h_) (seg := [.int .i64 t134]) (j := 1) hcl17 hcc17 (show 2 ≤ 3 from by decide) (x' := (⟨(rd_T35 y135 x14_1).f0, t134, (rd_T35 y135 x14_1).f2⟩ : S35)) (k35_mkM _ _ _ (⟨(rd_T35 y135 x14_1).f0, t134, (rd_T35 y135 x14_1).f2⟩ : S35) ) (fun _ hk => hk)).1
            rw [← Ny136.out] at HP17
            have HQ17 := Aside0.mk HP17
            clear hcl17 hcc17 hfr17 hM17 HP17
            refine hK.out _ _ ⟨HS0_, HS1_, HS2_, HS3_, HS4_, HS5_⟩ (fun hHeld => ?_)
            clear hK K
            refine norm_ (a' := ?_) ?_ ?_
            rotate_left
            · show Act.put _ (some 32) _ = _
              simp only [Act.put, List.setIfInBounds_toArray, List.set_cons_zero, List.set_cons_succ, i64_w, i32_w]
              rfl
            refine pure_ (i := 16) (N := some 33) (v := ?_) (a' := ?_) #[true, true, true, true, true, true, true, true, true, true, true, true, true, true, true, true, true, false, false, false, false, false] rfl rfl (any_of HT_.out (by kernel_rfl)) (fun _ _ _ h => h) (Or.inl ⟨by rfl, ?_⟩) ?_ ?_
            rotate_left
            · intro w'
              go_simp
              with_reducible rfl
            rotate_left
            · simp only [Act.put, List.setIfInBounds_toArray, List.set_cons_zero, List.set_cons_succ, i64_w, i32_w]
              rfl
            refine pure_ (i := 17) (N := some 34) (v := ?_) (a' := ?_) #[true, true, true, true, true, true, true, true, true, true, true, true, true, true, true, true, true, true, false, false, false, false] rfl rfl (any_of HT_.out (by kernel_rfl)) (fun _ _ _ h => h) (Or.inl ⟨by rfl, ?_⟩) ?_ ?_
            rotate_left
            · intro w'
              go_simp
              with_reducible rfl
            rotate_left
            · simp only [Act.put, List.setIfInBounds_toArray, List.set_cons_zero, List.set_cons_succ, i64_w, i32_w]
              rfl
            refine last_ (i := 18) (N := none) #[true, true, true, true, true, true, true, true, true, true, true, true, true, true, true, true, true, true, true, false, false, false] rfl rfl (one_of HT_.out (by kernel_rfl)) (by decide) (fun K hK => ?_)
            refine skip_ (w1 := ?_) (by rfl) rfl ?_ ?_
            rotate_left
            · go_simp
              rfl
            refine hK.out _ _ ?_
            clear hK K
            refine pure_ (i := 19) (N := some 35) (v := ?_) (a' := ?_) #[true, true, true, true, true, true, true, true, true, true, true, true, true, true, true, true, true, true, true, true, false, false] rfl rfl (any_of HT_.out (by kernel_rfl)) (fun _ _ _ h => h) (Or.inl ⟨by rfl, ?_⟩) ?_ ?_
            rotate_left
            · intro w'
              go_simp
              with_reducible rfl
            rotate_left
            · simp only [Act.put, List.setIfInBounds_toArray, List.set_cons_zero, List.set_cons_succ, i64_w, i32_w]
              rfl
            refine pure_ (i := 20) (N := some 36) (v := ?_) (a' := ?_) #[true, true, true, true, true, true, true, true, true, true, true, true, true, true, true, true, true, true, true, true, true, false] rfl rfl (any_of HT_.out (by kernel_rfl)) (fun _ _ _ h => h) (Or.inl ⟨by rfl, ?_⟩) ?_ ?_
            rotate_left
            · intro w'
              go_simp
              with_reducible rfl
            rotate_left
            · simp only [Act.put, List.setIfInBounds_toArray, List.set_cons_zero, List.set_cons_succ, i64_w, i32_w]
              rfl
            refine last_ (i := 21) (N := none) #[true, true, true, true, true, true, true, true, true, true, true, true, true, true, true, true, true, true, true, true, true, true] rfl rfl (one_of HT_.out (by kernel_rfl)) (by decide) (fun K hK => ?_)
            refine skip_ (w1 := ?_) (by rfl) rfl ?_ ?_
            rotate_left
            · go_simp
              rfl
            refine hK.out _ _ ?_
            clear hK K
            refine done_ (done_of HT_.out (by kernel_rfl)) ?_
            try go_wp2_with (first | ((with_reducible refine gate_dst (N := 42) rfl ?_); refine Kd.R_lit (Kd.int .u8) _ 5 ?hg (N := 42) ?hd (xs := ([(wrap64 (97 + x14_1)) % 256] : List Int)) (inner := [.int .u8 ((wrap64 (97 + x14_1)) % 256)]) (ok := fun _ => True) (okp := fun _ => True) ?hr ?hp (fun _ hk => hk) trivial (Below.refl _ _) (Nat.le_refl _) (by simp) ?_; (case hd => rfl); (case hg => rfl); (case hr => first | (go_simp; done) | (go_simp; rfl)); (case hp => exact (Reps.one (show Kd.M (Kd.int .u8) _ _ _ ((wrap64 (97 + x14_1)) % 256) [.int .u8 ((wrap64 (97 + x14_1)) % 256)] from rfl) (Reps.none _ _))); intro v138 w18 ho19 hb hg_ hnew_; clear hg_ hnew_; (first | rw [← Ny137.out] at ho19 | (simp only [Int.reduceToNat] at ho19; rw [← Ny137.out] at ho19)); have n0_ := Aside0.mk (Kd.R_below (by (with_reducible repeat (first | apply Kd.R_alloc | apply Kd.R_drewN | apply Kd.R_drew)); exact HQ17.out) hb); have n1_ := Aside0.mk (Kd.R_lower ho19 (below_size (by repeat (first | (with_reducible first | exact HB.out | apply below_alloc | apply pw_below_drewN | apply below_drew1 | refine below_set ?_ GB10.out | refine below_set ?_ GB10.out) | exact HB.out)))); have n2_ := Aside0.mk (below_step (by repeat (first | (with_reducible first | exact HB.out | apply below_alloc | apply pw_below_drewN | apply below_drew1 | refine below_set ?_ GB10.out | refine below_set ?_ GB10.out) | exact HB.out)) hb); clear HO_3; clear HB; have HO_3 := n0_; have HO139 := n1_; have HB := n2_; clear n0_ n1_ n2_; clear hb ho19; have hcv20 := own_string (P := Try.prog) Try.underlying22 Try.underlying5 Try.underlying9 (Kd.own_of_R HO139.out); have p12 : 0 ≤ (x14_1 : Int) := of_decide_eq_true (by first | (with_reducible assumption) | assumption); have q12 : (x14_1 : Int) < ((x3_1.length : Int) : Int) := of_decide_eq_true (by first | (with_reducible assumption) | assumption); obtain ⟨ce12, hcl12, hM12, hcc12, hfr12⟩ := Kd.R_elem HO_3.out z35 (x14_1 : Int) p12 q12; obtain rfl := k35_openM hM12; have hx12_0 : w18.cell? ⟨go10, (x14_1 : Int).toNat * 3, none⟩ = some (.int .i64 ((rd_T35 y136 x14_1).f0)) := hcc12 0 _ rfl; have hx12_1 : w18.cell? ⟨go10, (x14_1 : Int).toNat * 3 + 1, none⟩ = some (.int .i64 ((rd_T35 y136 x14_1).f1)) := hcc12 1 _ rfl; have hx12_2 : w18.cell? ⟨go10, (x14_1 : Int).toNat * 3 + 2, none⟩ = some (.string ((rd_T35 y136 x14_1).f2)) := hcc12 2 _ rfl; have hf12_0 : w18.frozen? ⟨go10, (x14_1 : Int).toNat * 3, none⟩ = false := hfr12 0; have hf12_1 : w18.frozen? ⟨go10, (x14_1 : Int).toNat * 3 + 1, none⟩ = false := hfr12 1; have hf12_2 : w18.frozen? ⟨go10, (x14_1 : Int).toNat * 3 + 2, none⟩ = false := hfr12 2; clear hcl12 hcc12 hfr12 hM12; replace p12 := eq_true p12; replace q12 := eq_true q12; have HX21 := Aside0.mk (show Kd.R k35 35 w18 w.heap.size (fun _ => True) (.slice (some ⟨go10, 0, none⟩) x3_1.length co4) y136 from (by (with_reducible repeat (first | apply Kd.R_alloc | apply Kd.R_drewN | apply Kd.R_drew)); exact HO_3.out)); obtain ⟨ce21, hcl21, hM21, hcc21, hfr21⟩ := Kd.R_elem HX21.out z35 (x14_1 : Int) (of_decide_eq_true (by first | (with_reducible assumption) | assumption)) (by have h_ : (x14_1 : Int) < ((x3_1.length : Int) : Int) := of_decide_eq_true (by first | (with_reducible assumption) | assumption); first | exact h_ | (have e_ := (Kd.R_reads' HO_3.out).1; omega) | simpa using h_); obtain rfl := k35_openM hM21; have HP21 := Kd.R_seg HX21.out (x14_1 : Int) (of_decide_eq_true (by first | (with_reducible assumption) | assumption)) (by have h_ : (x14_1 : Int) < ((x3_1.length : Int) : Int) := of_decide_eq_true (by first | (with_reducible assumption) | assumption); first | exact h_ | (have e_ := (Kd.R_reads' HO_3.out).1; omega) | simpa using h_) (seg := [.string (strOfNums y137)]) (j := 2) hcl21 hcc21 (show 3 ≤ 3 from by decide) (x' := (⟨(rd_T35 y136 x14_1).f0, (rd_T35 y136 x14_1).f1, strOfNums y137⟩ : S35)) (k35_mkM _ _ _ (⟨(rd_T35 y136 x14_1).f0, (rd_T35 y136 x14_1).f1, strOfNums y137⟩ : S35) ) (fun _ hk => hk); have hx21_2 := hcc21 2 _ rfl; (try simp only [show (k35).sz = 3 from rfl, Nat.mul_one, Nat.add_zero] at hx21_2); have hf21_2 := hfr21 2; (try simp only [show (k35).sz = 3 from rfl, Nat.mul_one, Nat.add_zero] at hf21_2); clear hcl21 hcc21 hfr21 hM21) | ((with_reducible refine gate_store (t := 9) (p := 45) rfl ?_); refine store_event (t := 9) (p := 45) (v := ?vo_w22) (w1 := (w18.setCell ⟨go10, (x14_1 : Int).toNat * 3 + 2, none⟩ (.string (strOfNums y137)))) ?hg ?ho ?hn ?hr ?_; (case ho => rfl); (case hg => rfl); (case hn => rfl); (case hr => first | (go_simp; done) | (go_simp; rfl)); intro w22 hw; have hg : w18.grownBy w22 (some go10) := (by rw [hw]; exact HP21.2); have hp_ : Kd.R k35 35 w22 w.heap.size (fun _ => True) (.slice (some ⟨go10, 0, none⟩) x3_1.length co4) y140 := (by rw [hw, Ny140.out]; exact HP21.1); clear HP21; have n0_ := Aside0.mk (hp_); have n1_ := Aside0.mk (Kd.R_over' (v := (.slice (some ⟨go10, 0, none⟩) x3_1.length co4)) (by (with_reducible repeat (first | apply Kd.R_alloc | apply Kd.R_drewN | apply Kd.R_drew)); exact HO139.out) (Kd.R_typed HO_3.out) (by decide) hg); have n2_ := Aside0.mk ((by rw [hw]; exact below_set (HB.out) GB10.out : Below w.heap.size w w22)); clear HO_3; clear HO139; clear HB; have HO_3 := n0_; have HO139 := n1_; have HB := n2_; clear n0_ n1_ n2_; clear hg hw hp_))
            (try simp only [← hl3_1])
            go_roundg k1
            case measure => have := HK1.out; omega
            case rel => exact ⟨(y140), (wrap64 (x14_1 + 1)), (by first | rfl | (simp; done) | (simp [*]; done)), H', ⟨by have := HK1.out; omega⟩, ⟨by (try simp only [hl3_1]); (with_reducible repeat (first | apply Kd.R_alloc | apply Kd.R_drewN | apply Kd.R_drew)); exact HO_3.out⟩, ⟨by repeat (first | (with_reducible first | exact HB.out | apply below_alloc | apply pw_below_drewN | apply below_drew1) | exact HB.out)⟩⟩
          · rw [if_neg c7] at H
            exact absurd H (by simp)
        · rw [if_neg c6] at H
          exact absurd H (by simp)
      · rw [if_neg c5] at H
        have c5b0 : decide (x14_1 < (t128.length : Int)) = false := decide_eq_false c5
        clear c5
        obtain rfl := Option.some.inj H
        have c5b1 : decide (x14_1 < (x3_1.length : Int)) = false := by rw [← hl3_1]; exact c5b0
        have c5b2 : ¬ x14_1 < (x3_1.length : Int) := of_decide_eq_false c5b1
        go_wp2_with fail
        have hl6 := HTOLD.out.len
        have HO := HO_3
        have HR := Aside0.mk (Kd.R_reads' HO.out).2.2
        have HC := Aside0.mk (Kd.R_reads' HO.out).2.1
        clear HO_3
        refine (merge_walk Ao4 co4 x3_1 _ HR.out HC.out (by omega)).mono ?_
        rintro e w2 ⟨v5, rfl, hRm, hbm⟩
        have hRm := Kd.R_lower hRm HB.out.size
        have HO := Aside0.mk (Kd.R_below HO.out hbm)
        have HB := Aside0.mk (below_step HB.out hbm)
        obtain ⟨Am, cm, rfl⟩ := Kd.R_slice hRm
        have HS := Aside0.mk (srt_sorted HTOLD.out)
        obtain ⟨m, hm⟩ : ∃ m, srt x3_1 = m := ⟨_, rfl⟩
        rw [hm] at hRm HS
        rw [hm]
        clear hm
        have hml := HS.out.len
        rw [hml] at hRm ⊢
        have HM := Aside0.mk hRm
        clear hRm hbm hml HR HC
        go_wp2_with fail
        have HD := Aside0.mk (seen_made w2 m)
        have HO := Aside0.mk (Kd.R_alloc HO.out (.map #[] 0))
        have HM := Aside0.mk (Kd.R_alloc HM.out (.map #[] 0))
        have HBB := Aside0.mk HB.out.size
        have HB := Aside0.mk (below_alloc HB.out (.map #[] 0))
        generalize w2.heap.size = B at HD HBB ⊢
        generalize w2.alloc (.map #[] 0) = w3 at HD HO HM HB ⊢
        go_loopg [57] x3_1.length (fun g1 v57 wr => ∃ i : Nat, v57 = .int .i64 i ∧ i ≤ x3_1.length ∧ x3_1.length ≤ g1 + i ∧ Aside0 (Seen wr B i m) ∧ Aside0 (Kd.R k35 35 wr w.heap.size (fun _ => True) (.slice Ao4 x3_1.length co4) x3_1) ∧ Aside0 (Kd.R k35 35 wr w.heap.size (fun _ => True) (.slice Am x3_1.length cm) m) ∧ Aside0 (Below w.heap.size w wr))
        case atStart => exact ⟨0, by first | rfl | go_num, Nat.zero_le _, by omega, HD, HO, HM, HB⟩
        case round =>
          clear HD HO HM HB
          obtain ⟨i, rfl, hi, hg1, HD, HO, HM, HB⟩ := hrel
          by_cases hlt : i < x3_1.length
          · have hltz : (i : Int) < (x3_1.length : Int) := by omega
            have hi6 : i < 6 := by omega
            obtain ⟨j, hj, hyj⟩ := HS.out.from_ i (by rw [HS.out.len]; exact hlt)
            obtain ⟨y, hy⟩ : ∃ y, m.getD i z35 = y := ⟨_, rfl⟩
            rw [hy] at hyj
            have htx := HTOLD.out.text j hj
            rw [← hyj] at htx
            obtain ⟨tx, htx2⟩ : ∃ tx, y.f2 = tx := ⟨_, rfl⟩
            have HY := Aside0.mk hy
            have HYJ := Aside0.mk hyj
            have hsz : tx.size = 1 := by rw [← htx2, htx, strOfNums_size]; rfl
            have htd : ∀ h : 0 < tx.size, ((tx[0]'h).toNat : Int) = 97 + j := by
              have hj6 : j < 6 := by omega
              rw [← htx2, htx]
              intro h
              match j, hj6 with
              | 0, _ => rfl
              | 1, _ => rfl
              | 2, _ => rfl
              | 3, _ => rfl
              | 4, _ => rfl
              | 5, _ => rfl
            have hj6 : j < 6 := by omega
            have hnot : ∀ q, q < i → (m.getD q z35).f2.data.toList ≠ tx.data.toList := by
              intro q hq e
              refine HS.out.ne i q (by rw [HS.out.len]; exact hlt) hq ?_
              have e2 : (m.getD q z35).f2 = tx := by
                cases h1 : (m.getD q z35).f2
                cases tx
                rw [h1] at e
                simp only at e
                rw [Array.toList_inj.1 e]
              unfold tag
              rw [HY.out, htx2, e2]
            have hlook : ∀ n' : Nat, (Instr.lookup 43 (.map (some B)) (.string tx) false).run Try.prog (wr.drewN n') = .ok (.bool false) (wr.drewN n') := fun n' => seen_not (w := wr.drewN n') HD.out tx (by rw [hsz]; decide) hnot
            have HX := Aside0.mk htx2
            clear hyj htx hy htx2 hnot
            have hmC := fun n' : Nat => Kd.C_drewN (Kd.R_reads' HM.out).2.2 n'
            have hsC := fun n' : Nat => Kd.C_drewN (Kd.R_reads' HO.out).2.2 n'
            obtain ⟨am, hame, _⟩ := at_T35 (hmC 0) (i : Int) (by omega) (by rw [HS.out.len]; omega)
            obtain ⟨sa, hase, _⟩ := at_T35 (hsC 0) (j : Int) (by omega) (by omega)
            subst hame
            subst hase
            have m3 : ∀ n' : Nat, (wr.drewN n').cell? (am.add (i * 3)) = some (.int .i64 y.f0) ∧ (wr.drewN n').cell? ⟨(am.add (i * 3)).block, (am.add (i * 3)).off + 1, none⟩ = some (.int .i64 y.f1) ∧ (wr.drewN n').cell? ⟨(am.add (i * 3)).block, (am.add (i * 3)).off + 2, none⟩ = some (.string tx) := fun n' => by
              obtain ⟨ad', e, h0, h1, h2⟩ := at_T35 (hmC n') (i : Int) (by omega) (by rw [HS.out.len]; omega)
              cases e
              simp only [Int.toNat_natCast, rd_T35, HY.out, HX.out] at h0 h1 h2
              exact ⟨h0, h1, h2⟩
            have s3 : ∀ n' : Nat, (wr.drewN n').cell? (sa.add (j * 3)) = some (.int .i64 y.f0) ∧ (wr.drewN n').cell? ⟨(sa.add (j * 3)).block, (sa.add (j * 3)).off + 1, none⟩ = some (.int .i64 y.f1) ∧ (wr.drewN n').cell? ⟨(sa.add (j * 3)).block, (sa.add (j * 3)).off + 2, none⟩ = some (.string tx) := fun n' => by
              obtain ⟨ad', e, h0, h1, h2⟩ := at_T35 (hsC n') (j : Int) (by omega) (by omega)
              cases e
              simp only [Int.toNat_natCast, rd_T35, ← HYJ.out, HX.out] at h0 h1 h2
              exact ⟨h0, h1, h2⟩
            have m0 := fun n' => (m3 n').1
            have m1 := fun n' => (m3 n').2.1
            have m2 := fun n' => (m3 n').2.2
            have s0 := fun n' => (s3 n').1
            have s1 := fun n' => (s3 n').2.1
            have s2 := fun n' => (s3 n').2.2
            clear m3 s3 hmC hsC
            have hjn : (j : Int) < (x3_1.length : Int) := by omega
            have hw8 : IntKind.u8.wrap (97 + (j : Int) - 97) = (j : Int) := by
              match j, hj6 with
              | 0, _ => rfl
              | 1, _ => rfl
              | 2, _ => rfl
              | 3, _ => rfl
              | 4, _ => rfl
              | 5, _ => rfl
            have hw64 : IntKind.i64.wrap (j : Int) = (j : Int) := by rw [IntKind.wrap_i64]; omega
            have dl0 : decide (x3_1.length ≤ j) = false := decide_eq_false (by omega)
            have dl1 : decide ((x3_1.length : Int) ≤ (j : Int)) = false := decide_eq_false (by omega)
            go_wp2_with fail
            go_quiet (fail)
            clear hlook m0 m1 m2 s0 s1 s2 hw8 hw64 dl0 dl1 htd
            have HD := HD
            have HO := Aside0.mk (Kd.R_drewN HO.out nq)
            have HM := Aside0.mk (Kd.R_drewN HM.out nq)
            have HB := Aside0.mk (pw_below_drewN HB.out nq)
            have HD2 : Aside0 (Seen (wr.drewN nq) B i m) := HD
            have hc2 := (at_T35 (Kd.R_reads' HM.out).2.2 (i : Int) (by omega) (by rw [HS.out.len]; omega))
            obtain ⟨ad', e, h0, h1, h2⟩ := hc2
            cases e
            simp only [Int.toNat_natCast, rd_T35, HY.out, HX.out] at h0 h1 h2
            clear HD
            generalize wr.drewN nq = wr at HD2 HO HM HB h0 h1 h2 ⊢
            obtain ⟨D, hown, hmap, hD⟩ := HD2.out
            obtain ⟨es, clock, hblk⟩ := seen_block HD2.out
            have HDD := Aside0.mk hD
            have HMAP := Aside0.mk hmap
            have HBLK := Aside0.mk hblk
            have HOWN := Aside0.mk hown
            clear hD hmap hblk hown HD2
            have hkey : keyOf Try.prog 9 (.string tx) = some (.string tx.data.toList) := Go.WideMaps.keyOf_string_mk Try.underlying9 (by rw [hsz]; decide)
            have HKEY := Aside0.mk hkey
            clear hkey
            by_cases hi0 : i = 0
            · have e0 : decide ((i : Int) = 0) = true := decide_eq_true (by omega)
              have e1 : decide (i = 0) = true := decide_eq_true hi0
              have e2 : ((i : Int) == 0) = true := beq_iff_eq.2 (by omega)
              clear hi0
              go_wp2_with (first | (at_mapUpdate; refine wpList_mapUpdate_own _ rfl _ _ _ 43 rfl 9 4 law9 Try.underlying43 _ B i D rfl HOWN.out (Nat.lt_trans hi6 (by decide)) _ _ _ rfl rfl HKEY.out _ [] (plainElem_bool Try.underlying4 true) ?_; intro w1 hown1 hgrow1))
              have HD := Aside0.mk (seen_put (w := wr) tx (by rw [HY.out, HX.out]) HMAP.out HDD.out hown1)
              have HO := Aside0.mk (R_map HO.out HBLK.out hgrow1)
              have HM := Aside0.mk (R_map HM.out HBLK.out hgrow1)
              have HB := Aside0.mk (pw_below_grown HB.out (some B) HB.out.size hgrow1 (fun k hk => by injection hk with hk; rw [← hk]; exact HBB.out))
              clear hown1 hgrow1
              go_roundg (x3_1.length - (i + 1))
              case measure => omega
              case rel => exact ⟨i + 1, by first | rfl | go_num, by omega, by omega, HD, HO, HM, HB⟩
            · obtain ⟨ip, rfl⟩ : ∃ ip, i = ip + 1 := ⟨i - 1, by omega⟩
              have e0 : decide (((ip : Int) + 1) = 0) = false := decide_eq_false (by omega)
              have e1 : decide (ip + 1 = 0) = false := decide_eq_false (by omega)
              have e2 : (((ip : Int) + 1) == 0) = false := beq_eq_false_iff_ne.2 (by omega)
              have e3 : ¬ ((ip : Int) + 1 = 0) := by omega
              clear hi0
              go_wp2_with (first | (at_mapUpdate; refine wpList_mapUpdate_own _ rfl _ _ _ 43 rfl 9 4 law9 Try.underlying43 _ B (ip + 1) D rfl HOWN.out (Nat.lt_trans hi6 (by decide)) _ _ _ rfl rfl HKEY.out _ [] (plainElem_bool Try.underlying4 true) ?_; intro w1 hown1 hgrow1))
              have HD := Aside0.mk (seen_put (w := wr) tx (by rw [HY.out, HX.out]) HMAP.out HDD.out hown1)
              have HO := Aside0.mk (R_map HO.out HBLK.out hgrow1)
              have HM := Aside0.mk (R_map HM.out HBLK.out hgrow1)
              have HB := Aside0.mk (pw_below_grown HB.out (some B) HB.out.size hgrow1 (fun k hk => by injection hk with hk; rw [← hk]; exact HBB.out))
              clear hown1 hgrow1
              obtain ⟨ja, hja, hyja⟩ := HS.out.from_ ip (by rw [HS.out.len]; omega)
              obtain ⟨ya, hya⟩ : ∃ y, m.getD ip z35 = y := ⟨_, rfl⟩
              have hord := HS.out.ord ip (by rw [HS.out.len]; omega)
              rw [hya, HY.out] at hord
              rw [hya] at hyja
              have htg : tag ya = 97 + ja := by rw [hyja]; exact tag_told HTOLD.out ja hja
              have htg2 : tag y = 97 + j := by rw [HYJ.out]; exact tag_told HTOLD.out j hj
              have hbl : tag ya < tag y → Op.bytesLess ya.f2.toList tx.toList = true := fun h => by
                have hxa := HTOLD.out.text ja hja
                rw [← hyja] at hxa
                rw [← HX.out, HYJ.out, HTOLD.out.text j hj, hxa]
                have hj6 : ja < 6 := by have := HTOLD.out.len; omega
                exact less_tags ⟨ja, hj6⟩ ⟨j, by omega⟩ (by show ja < j; omega)
              have HORD := Aside0.mk (And.intro hord hbl)
              clear hord hbl hyja htg htg2
              obtain ⟨ad', e, pa0, pa1, pa2⟩ := (at_T35 (Kd.R_reads' HM.out).2.2 (ip : Int) (by omega) (by rw [HS.out.len]; omega))
              cases e
              simp only [Int.toNat_natCast, rd_T35, hya] at pa0 pa1 pa2
              clear hya
              obtain ⟨ad', e, pb0, pb1, pb2⟩ := (at_T35 (Kd.R_reads' HM.out).2.2 ((ip + 1 : Nat) : Int) (by omega) (by rw [HS.out.len]; omega))
              cases e
              simp only [Int.toNat_natCast, rd_T35, HY.out, HX.out] at pb0 pb1 pb2
              have hwp : IntKind.i64.wrap (ip : Int) = (ip : Int) := by rw [IntKind.wrap_i64]; omega
              have jz : (ip : Int) + 1 < (x3_1.length : Int) := by omega
              have jz1 : (ip : Int) < (x3_1.length : Int) := by omega
              have p0 : (0 : Int) ≤ (ip : Int) + 1 := by omega
              have e0n : ((ip : Int) + 1).toNat = ip + 1 := by omega
              refine start_ (n := 13) (S := fun w' => Below w1.heap.size w1 w') (ds := []) #[false, false, false, false, false, false, false, false, false, false, false, false, false] (by kernel_rfl) rfl rfl (below_drew1 (Below.refl _ _)) (fun hHeld => ?_)
              refine with_tabW merges_tab19 merges_bits19 (fun HT_ HW_ => ?_)
              generalize w1.drew = w5 at hHeld ⊢
              refine pure_ (i := 0) (N := some 114) (v := ?_) (a' := ?_) #[true, false, false, false, false, false, false, false, false, false, false, false, false] rfl rfl (any_of HT_.out (by kernel_rfl)) (fun _ _ _ h => h) (Or.inl ⟨by rfl, ?_⟩) ?_ ?_
              rotate_left
              · intro w'
                go_simp
                with_reducible rfl
              rotate_left
              · simp only [Act.put, List.setIfInBounds_toArray, List.set_cons_zero, List.set_cons_succ, i64_w, i32_w]
                rfl
              refine pure_ (i := 1) (N := some 115) (v := ?_) (a' := ?_) #[true, true, false, false, false, false, false, false, false, false, false, false, false] rfl rfl (any_of HT_.out (by kernel_rfl)) (fun _ _ _ h => h) (Or.inl ⟨by rfl, ?_⟩) ?_ ?_
              rotate_left
              · intro w'
                go_simp
                with_reducible rfl
              rotate_left
              · simp only [Act.put, List.setIfInBounds_toArray, List.set_cons_zero, List.set_cons_succ, i64_w, i32_w]
                rfl
              refine pure_ (i := 2) (N := some 116) (v := ?_) (a' := ?_) #[true, true, true, false, false, false, false, false, false, false, false, false, false] rfl rfl (any_of HT_.out (by kernel_rfl)) (fun _ _ _ h => h) (Or.inl ⟨by rfl, ?_⟩) ?_ ?_
              rotate_left
              · intro w'
                go_simp
                with_reducible rfl
              rotate_left
              · simp only [Act.put, List.setIfInBounds_toArray, List.set_cons_zero, List.set_cons_succ, i64_w, i32_w]
                rfl
              refine pure_ (i := 3) (N := some 117) (v := ?_) (a' := ?_) #[true, true, true, true, false, false, false, false, false, false, false, false, false] rfl rfl (any_of HT_.out (by kernel_rfl)) (fun _ _ _ h => h) (Or.inl ⟨by rfl, ?_⟩) ?_ ?_
              rotate_left
              · intro w'
                go_simp
                with_reducible rfl
              rotate_left
              · simp only [Act.put, List.setIfInBounds_toArray, List.set_cons_zero, List.set_cons_succ, i64_w, i32_w]
                rfl
              refine pure_ (i := 5) (N := some 119) (v := ?_) (a' := ?_) #[true, true, true, true, false, true, false, false, false, false, false, false, false] rfl rfl (any_of HT_.out (by kernel_rfl)) (fun _ _ _ h => h) (Or.inl ⟨by rfl, ?_⟩) ?_ ?_
              rotate_left
              · intro w'
                go_simp
                with_reducible rfl
              rotate_left
              · simp only [Act.put, List.setIfInBounds_toArray, List.set_cons_zero, List.set_cons_succ, i64_w, i32_w]
                rfl
              refine pure_ (i := 6) (N := some 120) (v := ?_) (a' := ?_) #[true, true, true, true, false, true, true, false, false, false, false, false, false] rfl rfl (any_of HT_.out (by kernel_rfl)) (fun _ _ _ h => h) (Or.inl ⟨by rfl, ?_⟩) ?_ ?_
              rotate_left
              · intro w'
                go_simp
                with_reducible rfl
              rotate_left
              · simp only [Act.put, List.setIfInBounds_toArray, List.set_cons_zero, List.set_cons_succ, i64_w, i32_w]
                rfl
              refine pure_ (i := 7) (N := some 121) (v := ?_) (a' := ?_) #[true, true, true, true, false, true, true, true, false, false, false, false, false] rfl rfl (any_of HT_.out (by kernel_rfl)) (fun _ _ _ h => h) (Or.inl ⟨by rfl, ?_⟩) ?_ ?_
              rotate_left
              · intro w'
                go_simp
                with_reducible rfl
              rotate_left
              · simp only [Act.put, List.setIfInBounds_toArray, List.set_cons_zero, List.set_cons_succ, i64_w, i32_w]
                rfl
              refine take_ (i := 4) (N := some 118) (v := ?_) (a' := ?_) #[true, true, true, true, true, true, true, true, false, false, false, false, false] rfl rfl (take_ofW HT_.out HW_.out (by kernel_rfl)) (fun _ _ _ h => h) (Or.inl ⟨by rfl, ?_⟩) hHeld ?_ ?_
              rotate_left
              · intro w' hS
                have c0 := (hS.cell (World.block_lt_of_cell? _ _ pa0)).trans pa0
                have c1 := (hS.cell (World.block_lt_of_cell? _ _ pa1)).trans pa1
                have c2 := (hS.cell (World.block_lt_of_cell? _ _ pa2)).trans pa2
                clear hS
                go_simp
                with_reducible rfl
              rotate_left
              · simp only [Act.put, List.setIfInBounds_toArray, List.set_cons_zero, List.set_cons_succ, i64_w, i32_w]
                rfl
              refine take_ (i := 8) (N := some 122) (v := ?_) (a' := ?_) #[true, true, true, true, true, true, true, true, true, false, false, false, false] rfl rfl (take_ofW HT_.out HW_.out (by kernel_rfl)) (fun _ _ _ h => h) (Or.inl ⟨by rfl, ?_⟩) hHeld ?_ ?_
              rotate_left
              · intro w' hS
                have c0 := (hS.cell (World.block_lt_of_cell? _ _ pb0)).trans pb0
                have c1 := (hS.cell (World.block_lt_of_cell? _ _ pb1)).trans pb1
                have c2 := (hS.cell (World.block_lt_of_cell? _ _ pb2)).trans pb2
                clear hS
                go_simp
                with_reducible rfl
              rotate_left
              · simp only [Act.put, List.setIfInBounds_toArray, List.set_cons_zero, List.set_cons_succ, i64_w, i32_w]
                rfl
              refine join_ (σ := Nat × Nat) 2 #[true, true, true, true, true, true, true, true, true, true, true, false, false] (fun s_ => [(8, .pointer (some ⟨s_.1, 0, none⟩)), (9, .pointer (some ⟨s_.2, 0, none⟩))]) (fun s_ w' => Below w1.heap.size w1 w' ∧ s_.1 ≠ s_.2 ∧ w1.heap.size ≤ s_.1 ∧ w1.heap.size ≤ s_.2 ∧ w'.heap[s_.1]? = some (.cells #[.int .i64 0, .int .i64 0, .string (⟨#[]⟩ : ByteArray)] 35 (0, 0)) ∧ w'.heap[s_.2]? = some (.cells #[.int .i64 0, .int .i64 0, .string (⟨#[]⟩ : ByteArray)] 35 (0, 0))) ?_ ?_
              rotate_left
              · intro hCont
                refine two_ (i := 9) (j := 10) (Ni := some 8) (Nj := some 9) #[true, true, true, true, true, true, true, true, true, true, false, false, false] #[true, true, true, true, true, true, true, true, true, false, true, false, false] rfl rfl rfl rfl (two_of HT_.out (by kernel_rfl)) (by decide) (by decide) (fun K hK => ?_) (fun K hK => ?_)
                · refine box_step ?hg (N := 8) ?hd (cs := #[.int .i64 0, .int .i64 0, .string (⟨#[]⟩ : ByteArray)]) (t := 35) ?hr ?_; (case hd => rfl); (case hg => rfl); (case hr => first | (go_simp; done) | (go_simp; rfl))
                  intro g1 hg w6 hbox hb
                  have hS6 := below_step hHeld hb
                  have hg1 : w1.heap.size ≤ g1 := by rw [hg]; exact hHeld.size
                  have hbox1 := hbox
                  clear hbox hb hg
                  refine hK.out _ _ hS6 (fun _ => ?_)
                  clear hK K
                  refine norm_ (a' := ?_) ?_ ?_
                  rotate_left
                  · show Act.put _ (some 8) _ = _
                    simp only [Act.put, List.setIfInBounds_toArray, List.set_cons_zero, List.set_cons_succ, i64_w, i32_w]
                    rfl
                  refine one_ (i := 10) (N := some 9) #[true, true, true, true, true, true, true, true, true, true, true, false, false] rfl rfl (one_of HT_.out (by kernel_rfl)) (by decide) (fun K hK => ?_)
                  refine box_step ?hg (N := 9) ?hd (cs := #[.int .i64 0, .int .i64 0, .string (⟨#[]⟩ : ByteArray)]) (t := 35) ?hr ?_; (case hd => rfl); (case hg => rfl); (case hr => first | (go_simp; done) | (go_simp; rfl))
                  intro g2 hg w7 hbox hb
                  have hS7 := below_step hS6 hb
                  have hg2 : w1.heap.size ≤ g2 := by rw [hg]; exact hS6.size
                  have hne : g1 ≠ g2 := by rw [hg]; exact Nat.ne_of_lt (blk_lt hbox1)
                  have hbox1 := blk_below hbox1 hb
                  clear hb hg
                  refine hK.out _ _ hS7 (fun _ => ?_)
                  clear hK K
                  refine norm_ (a' := ?_) ?_ ?_
                  rotate_left
                  · show Act.put _ (some 9) _ = _
                    simp only [Act.put, List.setIfInBounds_toArray, List.set_cons_zero, List.set_cons_succ, i64_w, i32_w]
                    rfl
                  exact norm_ (by simp only [putAll, Act.put, List.setIfInBounds_toArray, List.set_cons_zero, List.set_cons_succ]) (hCont (g1, g2) _ ⟨hS7, hne, hg1, hg2, hbox1, hbox⟩)
                · refine box_step ?hg (N := 9) ?hd (cs := #[.int .i64 0, .int .i64 0, .string (⟨#[]⟩ : ByteArray)]) (t := 35) ?hr ?_; (case hd => rfl); (case hg => rfl); (case hr => first | (go_simp; done) | (go_simp; rfl))
                  intro g1 hg w6 hbox hb
                  have hS6 := below_step hHeld hb
                  have hg1 : w1.heap.size ≤ g1 := by rw [hg]; exact hHeld.size
                  have hbox1 := hbox
                  clear hbox hb hg
                  refine hK.out _ _ hS6 (fun _ => ?_)
                  clear hK K
                  refine norm_ (a' := ?_) ?_ ?_
                  rotate_left
                  · show Act.put _ (some 9) _ = _
                    simp only [Act.put, List.setIfInBounds_toArray, List.set_cons_zero, List.set_cons_succ, i64_w, i32_w]
                    rfl
                  refine one_ (i := 9) (N := some 8) #[true, true, true, true, true, true, true, true, true, true, true, false, false] rfl rfl (one_of HT_.out (by kernel_rfl)) (by decide) (fun K hK => ?_)
                  refine box_step ?hg (N := 8) ?hd (cs := #[.int .i64 0, .int .i64 0, .string (⟨#[]⟩ : ByteArray)]) (t := 35) ?hr ?_; (case hd => rfl); (case hg => rfl); (case hr => first | (go_simp; done) | (go_simp; rfl))
                  intro g2 hg w7 hbox hb
                  have hS7 := below_step hS6 hb
                  have hg2 : w1.heap.size ≤ g2 := by rw [hg]; exact hS6.size
                  have hne : g1 ≠ g2 := by rw [hg]; exact Nat.ne_of_lt (blk_lt hbox1)
                  have hbox1 := blk_below hbox1 hb
                  clear hb hg
                  refine hK.out _ _ hS7 (fun _ => ?_)
                  clear hK K
                  refine norm_ (a' := ?_) ?_ ?_
                  rotate_left
                  · show Act.put _ (some 8) _ = _
                    simp only [Act.put, List.setIfInBounds_toArray, List.set_cons_zero, List.set_cons_succ, i64_w, i32_w]
                    rfl
                  exact norm_ (by simp only [putAll, Act.put, List.setIfInBounds_toArray, List.set_cons_zero, List.set_cons_succ]) (hCont (g2, g1) _ ⟨hS7, Ne.symm hne, hg2, hg1, hbox, hbox1⟩)
              rintro ⟨b1, b2⟩ w6 ⟨hS6, NE, GE1, GE2, BK1, BK2⟩
              dsimp only at NE GE1 GE2 BK1 BK2
              clear hHeld
              refine norm_ (a' := ?_) ?_ ?_
              rotate_left
              · simp only [putAll, Act.put, List.setIfInBounds_toArray, List.set_cons_zero, List.set_cons_succ]
                rfl
              refine one_ (i := 11) (N := none) #[true, true, true, true, true, true, true, true, true, true, true, true, false] rfl rfl (one_of HT_.out (by kernel_rfl)) (by decide) (fun K hK => ?_)
              have z0 : w6.cell? ⟨b1, 0, none⟩ = some (.int .i64 0) := (blk_cell BK1 0).trans rfl
              have f0 : w6.frozen? ⟨b1, 0, none⟩ = false := blk_frozen BK1 0
              have z1 : w6.cell? ⟨b1, 1, none⟩ = some (.int .i64 0) := (blk_cell BK1 1).trans rfl
              have f1 : w6.frozen? ⟨b1, 1, none⟩ = false := blk_frozen BK1 1
              have z2 : w6.cell? ⟨b1, 2, none⟩ = some (.string (⟨#[]⟩ : ByteArray)) := (blk_cell BK1 2).trans rfl
              have f2 : w6.frozen? ⟨b1, 2, none⟩ = false := blk_frozen BK1 2
              have hS7 : Below w1.heap.size w1 (setAll w6 b1 0 [.int .i64 ya.f0, .int .i64 ya.f1, .string ya.f2]) := below_setAll hS6 GE1 _ _
              have BK2' := blk_setAll_other (h := BK2) (vs := [.int .i64 ya.f0, .int .i64 ya.f1, .string ya.f2]) (i := 0) (g := b1) (Ne.symm NE)
              have BK1' : (setAll w6 b1 0 [.int .i64 ya.f0, .int .i64 ya.f1, .string ya.f2]).heap[b1]? = some (.cells #[.int .i64 ya.f0, .int .i64 ya.f1, .string ya.f2] 35 (0, 0)) := (blk_setAll BK1 0 _).trans rfl
              refine skip_ (w1 := setAll w6 b1 0 [.int .i64 ya.f0, .int .i64 ya.f1, .string ya.f2]) (by rfl) rfl ?_ ?_
              · go_simp
                rfl
              refine hK.out _ _ hS7 (fun _ => ?_)
              clear hK K z0 f0 z1 f1 z2 f2
              clear BK1 BK2
              have BK1 := BK1'
              have BK2 := BK2'
              clear BK1' BK2' hS6
              generalize setAll w6 b1 0 [.int .i64 ya.f0, .int .i64 ya.f1, .string ya.f2] = w7 at BK1 BK2 hS7 ⊢
              refine one_ (i := 12) (N := none) #[true, true, true, true, true, true, true, true, true, true, true, true, true] rfl rfl (one_of HT_.out (by kernel_rfl)) (by decide) (fun K hK => ?_)
              have z0 : w7.cell? ⟨b2, 0, none⟩ = some (.int .i64 0) := (blk_cell BK2 0).trans rfl
              have f0 : w7.frozen? ⟨b2, 0, none⟩ = false := blk_frozen BK2 0
              have z1 : w7.cell? ⟨b2, 1, none⟩ = some (.int .i64 0) := (blk_cell BK2 1).trans rfl
              have f1 : w7.frozen? ⟨b2, 1, none⟩ = false := blk_frozen BK2 1
              have z2 : w7.cell? ⟨b2, 2, none⟩ = some (.string (⟨#[]⟩ : ByteArray)) := (blk_cell BK2 2).trans rfl
              have f2 : w7.frozen? ⟨b2, 2, none⟩ = false := blk_frozen BK2 2
              have hS8 : Below w1.heap.size w1 (setAll w7 b2 0 [.int .i64 y.f0, .int .i64 y.f1, .string tx]) := below_setAll hS7 GE2 _ _
              have BK1' := blk_setAll_other (h := BK1) (vs := [.int .i64 y.f0, .int .i64 y.f1, .string tx]) (i := 0) (g := b2) (NE)
              have BK2' : (setAll w7 b2 0 [.int .i64 y.f0, .int .i64 y.f1, .string tx]).heap[b2]? = some (.cells #[.int .i64 y.f0, .int .i64 y.f1, .string tx] 35 (0, 0)) := (blk_setAll BK2 0 _).trans rfl
              refine skip_ (w1 := setAll w7 b2 0 [.int .i64 y.f0, .int .i64 y.f1, .string tx]) (by rfl) rfl ?_ ?_
              · go_simp
                rfl
              refine hK.out _ _ hS8 (fun _ => ?_)
              clear hK K z0 f0 z1 f1 z2 f2
              clear BK1 BK2
              have BK1 := BK1'
              have BK2 := BK2'
              clear BK1' BK2' hS7
              generalize setAll w7 b2 0 [.int .i64 y.f0, .int .i64 y.f1, .string tx] = w8 at BK1 BK2 hS8 ⊢
              refine done_ (done_of HT_.out (by kernel_rfl)) ?_
              have HD := Aside0.mk (seen_below HD.out hS8)
              have HO := Aside0.mk (Kd.R_below HO.out hS8)
              have HM := Aside0.mk (Kd.R_below HM.out hS8)
              have HB := Aside0.mk (below_step HB.out hS8)
              have ca0 : w8.cell? ⟨b1, 0, none⟩ = some (.int .i64 ya.f0) := (blk_cell BK1 0).trans rfl
              have ca1 : w8.cell? ⟨b1, 1, none⟩ = some (.int .i64 ya.f1) := (blk_cell BK1 1).trans rfl
              have ca2 : w8.cell? ⟨b1, 2, none⟩ = some (.string ya.f2) := (blk_cell BK1 2).trans rfl
              have cb0 : w8.cell? ⟨b2, 0, none⟩ = some (.int .i64 y.f0) := (blk_cell BK2 0).trans rfl
              have cb1 : w8.cell? ⟨b2, 1, none⟩ = some (.int .i64 y.f1) := (blk_cell BK2 1).trans rfl
              have cb2 : w8.cell? ⟨b2, 2, none⟩ = some (.string tx) := (blk_cell BK2 2).trans rfl
              clear BK1 BK2 hS8 NE GE1 GE2 pa0 pa1 pa2 pb0 pb1 pb2
              rcases HORD.out.1 with hlt0 | ⟨heq0, hlt1 | ⟨heq1, hlt2⟩⟩
              · have d1 : decide (y.f0 < ya.f0) = false := decide_eq_false (by omega)
                have d2 : (ya.f0 == y.f0) = false := beq_eq_false_iff_ne.2 (by omega)
                have d3 : ¬ y.f0 < ya.f0 := by omega
                have d4 : ¬ ya.f0 = y.f0 := by omega
                clear hlt0
                go_wp2_with fail
                go_roundg (x3_1.length - (ip + 1 + 1))
                case measure => omega
                case rel => exact ⟨ip + 1 + 1, by first | rfl | go_num, by omega, by omega, HD, HO, HM, HB⟩
              · have d1 : decide (y.f0 < ya.f0) = false := decide_eq_false (by omega)
                have d2 : (ya.f0 == y.f0) = true := beq_iff_eq.2 heq0
                have d3 : decide (y.f1 < ya.f1) = false := decide_eq_false (by omega)
                have d4 : (ya.f1 == y.f1) = false := beq_eq_false_iff_ne.2 (by omega)
                clear heq0 hlt1
                go_wp2_with fail
                go_roundg (x3_1.length - (ip + 1 + 1))
                case measure => omega
                case rel => exact ⟨ip + 1 + 1, by first | rfl | go_num, by omega, by omega, HD, HO, HM, HB⟩
              · have d1 : decide (y.f0 < ya.f0) = false := decide_eq_false (by omega)
                have d2 : (ya.f0 == y.f0) = true := beq_iff_eq.2 heq0
                have d3 : decide (y.f1 < ya.f1) = false := decide_eq_false (by omega)
                have d4 : (ya.f1 == y.f1) = true := beq_iff_eq.2 heq1
                have d5 := HORD.out.2 hlt2
                clear heq0 heq1 hlt2
                go_wp2_with fail
                go_roundg (x3_1.length - (ip + 1 + 1))
                case measure => omega
                case rel => exact ⟨ip + 1 + 1, by first | rfl | go_num, by omega, by omega, HD, HO, HM, HB⟩
          · obtain rfl : i = x3_1.length := by omega
            go_wp2_with fail
            refine (scholiumlaw03_wakes.calls true _ rfl).mono ?_
            rintro e w9 ⟨rfl, hb9⟩
            have HB := Aside0.mk (below_step HB.out hb9)
            go_wp2
            go_ret
            exact ⟨rfl, HB.out⟩
end Go.Proofs.Ytbaokhcadifdmaa.Pure

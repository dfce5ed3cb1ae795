/- splice.Merge, walked, at fewer than twenty Splices: a new row, in order ('srt'). -/
import Derived.Test.YtbaokhcadifdmaaLibIns
import Derived.Test.YtbaokhcadifdmaaPAllF36
set_option linter.unusedVariables false
set_option linter.unusedSimpArgs false
namespace Go.Proofs.Ytbaokhcadifdmaa.Pure
open Go.RowKit Go.Proofs.Ytbaokhcadifdmaa.PAll Go.Proofs.YtbaokhcadifdmaaW.PrintWords Go.Proofs.YtbaokhcadifdmaaW.PrintLast Go.Proofs.YtbaokhcadifdmaaW.PrintMore Go.Proofs.YtbaokhcadifdmaaW.Plain

theorem ins_none (v : Value) (w : World) : Calls Try.prog 45 #[v, .int .i64 0, .int .i64 0, .func (.func 38) #[] #[]] w fun e w' => e = .returned (.tuple #[]) ∧ w' = w := by
  go_enter Try.func45, Try.ntmps45
  go_wp2
  go_loopw [8] (fun vi wr => vi = .int .i64 1 ∧ wr = w) (fun _ _ => 0)
  case atStart => exact ⟨rfl, rfl⟩
  case round =>
    obtain ⟨rfl, rfl⟩ := hrel
    go_wp2
    go_end0
    exact ⟨rfl, rfl⟩
/-- stableCmpFunc at fewer than twenty: one call of the insertion sort. -/
theorem stable_walk (v : Value) (n : Nat) (hn : n < 20) (w : World) (R : World → Prop)
    (h45 : Calls Try.prog 45 #[v, .int .i64 0, .int .i64 n, .func (.func 38) #[] #[]] w fun e w' => e = .returned (.tuple #[]) ∧ R w') :
    Calls Try.prog 43 #[v, .int .i64 n, .func (.func 38) #[] #[]] w fun e w' => e = .returned (.tuple #[]) ∧ R w' := by
  have hnz : ¬ (20 : Int) ≤ (n : Int) := by omega
  have hnz2 : ¬ (20 : Int) < (n : Int) := by omega
  have H45 := Aside0.mk h45
  clear h45
  go_enter Try.func43, Try.ntmps43
  go_wp2
  go_loopw [7, 8] (fun v7 v8 wr => v7 = .int .i64 0 ∧ v8 = .int .i64 20 ∧ wr = w) (fun _ _ _ => 0)
  case atStart => exact ⟨rfl, rfl, rfl⟩
  case round =>
    obtain ⟨rfl, rfl, rfl⟩ := hrel
    go_wp2_with fail
    refine H45.out.mono ?_
    rintro e w1 ⟨rfl, hR⟩
    have HR := Aside0.mk hR
    clear hR
    go_wp2
    go_loopw [6] (fun v6 wr => v6 = .int .i64 20 ∧ Aside0 (R wr)) (fun _ _ => 0)
    case atStart => exact ⟨rfl, HR⟩
    case round =>
      clear HR
      obtain ⟨rfl, HR⟩ := hrel
      go_wp2
      go_end0
      exact ⟨rfl, HR.out⟩
/-- The sort of an own row of fewer than twenty. -/
theorem sortStable_walk (v : Value) (l : List S35) (hl : l.length < 20) (base : Nat) (W0 w : World) (HO : Kd.R k35 35 w base (fun _ => True) v l) (HB : Below base W0 w) (hb : base ≤ W0.heap.size) :
    Calls Try.prog 37 #[v, .func (.func 38) #[] #[]] w fun e w' => e = .returned (.tuple #[]) ∧ Kd.R k35 35 w' base (fun _ => True) v (srt l) ∧ Below base W0 w' := by
  have h43 : Calls Try.prog 43 #[v, .int .i64 l.length, .func (.func 38) #[] #[]] w fun e w' => e = .returned (.tuple #[]) ∧ (Kd.R k35 35 w' base (fun _ => True) v (srt l) ∧ Below base W0 w') := by
    refine stable_walk v l.length hl w _ ?_
    by_cases h0 : l = []
    · subst h0
      exact (ins_none v w).mono fun e w' ⟨he, hw⟩ => ⟨he, by rw [hw]; exact ⟨HO, HB⟩⟩
    · have hp := List.length_pos_iff.2 h0
      obtain ⟨g, cap, rfl, hbg, _, _⟩ := Kd.R_form HO hp
      exact ins_walk g 0 cap base rfl l W0 w hp (by omega) HO HB hbg hb
  obtain ⟨A, c, rfl⟩ := Kd.R_slice HO
  have H43 := Aside0.mk h43
  clear h43 HO HB
  go_enter Try.func37, Try.ntmps37
  go_wp2_with fail
  refine H43.out.mono ?_
  rintro e w1 ⟨rfl, hR⟩
  have HR := Aside0.mk hR
  clear hR
  go_wp2
  go_end0
  exact ⟨rfl, HR.out⟩
/-- splice.Merge: a new row, the same Splices in order; what came in stays. -/
theorem merge_walk (A : Option Addr) (c : Nat) (l : List S35) (w : World) (hr : Kd.C k35 w A l.length l) (hc : l.length ≤ c) (hl : l.length < 20) :
    Calls Try.prog 22 #[.slice A l.length c] w fun e w' => ∃ v, e = .returned v ∧ Kd.R k35 35 w' w.heap.size (fun _ => True) v (srt l) ∧ Below w.heap.size w w' := by
  go_enter Try.func22, Try.ntmps22
  go_wp2_with fail
  refine (api_Splice_36.calls A c l l w hr hc (by simp only [api_Splice_36.f, Option.bind_some, List.nil_append]; rw [if_pos]; rw [List.length_nil]; omega)).mono ?_
  rintro e w1 ⟨v, rfl, hR, hb⟩
  have h37 := Aside0.mk (sortStable_walk v l hl w.heap.size w w1 hR hb (Nat.le_refl _))
  clear hR hb hr
  go_wp2_with fail
  refine h37.out.mono ?_
  rintro e w2 ⟨rfl, hR2, hb2⟩
  have HR := Aside0.mk hR2
  have HB := Aside0.mk hb2
  clear hR2 hb2
  go_wp2
  go_ret
  exact ⟨_, rfl, HR.out, HB.out⟩
end Go.Proofs.Ytbaokhcadifdmaa.Pure

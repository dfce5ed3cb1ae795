/- What the printed functions Outside and Kept come to, in plain words ('pcs'). -/
import Derived.Test.YtbaokhcadifdmaaPAllF33
import Derived.Test.YtbaokhcadifdmaaLibSplice
import Derived.Lib.Bytes
namespace Go.Proofs.Ytbaokhcadifdmaa.Pure
set_option linter.unusedVariables false
open Go.RowKit Go.Proofs.Ytbaokhcadifdmaa.PAll Go.Proofs.YtbaokhcadifdmaaW.PrintWords Go.Proofs.YtbaokhcadifdmaaW.PrintLast Go.Proofs.YtbaokhcadifdmaaW.Plain

/-- The pieces of b, from p on, that splices leave. -/
def pcs (b : List Int) : Nat → List S35 → List (List Int)
  | p, [] => [b.drop p]
  | p, x :: l => (b.take x.f0.toNat).drop p :: pcs b x.f1.toNat l
theorem pcs_len (b : List Int) : ∀ (l : List S35) (p : Nat), (pcs b p l).length = l.length + 1
  | [], _ => rfl
  | _ :: l, _ => by simp only [pcs, List.length_cons, pcs_len b l]
theorem rdL (l : List (List Int)) (i : Nat) (hi : i < l.length) : l.drop i = rd_L5 l (i : Int) :: l.drop (i + 1) := by
  rw [List.drop_eq_getElem_cons hi]
  simp [rd_L5, List.getD_eq_getElem?_getD, List.getElem?_eq_getElem hi]
theorem clone_some (l : List Int) (h : l.length < 140737488355328) : bytes_Clone.f l = some l := by
  simp [bytes_Clone.f, h]
theorem outside_l (b : List Int) (l : List S35) (hl : l.length ≤ 1000000000) (hb : b.length ≤ 1000000000) : ∀ (d k i : Nat) (p : Nat) (out : List (List Int)), i + d = l.length → d < k → p ≤ b.length → vld b.length p (l.drop i) = true → out.length = i →
    audit_Outside.l0 k b out (p : Int) l (l.length : Int) (i : Int) = some (out ++ pcs b p (l.drop i)) := by
  intro d
  induction d with
  | zero =>
    intro k i p out hi hk hp hv ho
    obtain ⟨k, rfl⟩ : ∃ m, k = m + 1 := ⟨k - 1, by omega⟩
    have hol : out.length < 5864062014805 := Nat.lt_of_le_of_lt (show out.length ≤ 1000000000 by omega) (by decide)
    have hdl : (b.drop p).length < 140737488355328 := Nat.lt_of_le_of_lt (show (b.drop p).length ≤ 1000000000 by rw [List.length_drop]; omega) (by decide)
    simp only [audit_Outside.l0]
    rw [if_neg (by omega), if_pos (Int.natCast_nonneg p), if_pos (by omega), List.drop_eq_nil_of_le (show l.length ≤ i by omega)]
    simp only [Int.toNat_natCast]
    rw [clone_some _ hdl]
    simp only [Option.bind_some, pcs]
    rw [if_pos hol]
  | succ d ih =>
    intro k i p out hi hk hp hv ho
    obtain ⟨k, rfl⟩ : ∃ m, k = m + 1 := ⟨k - 1, by omega⟩
    have hol : out.length < 5864062014805 := Nat.lt_of_le_of_lt (show out.length ≤ 1000000000 by omega) (by decide)
    have e := rdS l i (by omega)
    obtain ⟨x, hx⟩ : ∃ x, rd_T35 l (i : Int) = x := ⟨_, rfl⟩
    rw [hx] at e
    rw [e] at hv
    obtain ⟨h0, h1, h2, h3⟩ := vld_cons hv
    have hdl : ((b.take x.f0.toNat).drop p).length < 140737488355328 := Nat.lt_of_le_of_lt (show ((b.take x.f0.toNat).drop p).length ≤ 1000000000 by rw [cut_len _ _ _ (by omega)]; omega) (by decide)
    have hq : x.f1 = (x.f1.toNat : Int) := (Int.toNat_of_nonneg (by omega)).symm
    have w : wrap64 ((i : Int) + 1) = ((i + 1 : Nat) : Int) := by rw [w64 (by omega) (by omega)]; omega
    have hi1 : (i : Int) < (l.length : Int) := by omega
    simp only [audit_Outside.l0, hx]
    rw [if_pos hi1, if_pos (Int.natCast_nonneg i), if_pos hi1, if_pos (Int.natCast_nonneg p), if_pos h0, if_pos (by omega)]
    simp only [Int.toNat_natCast]
    rw [clone_some _ hdl]
    simp only [Option.bind_some]
    rw [if_pos hol, w, e]
    simp only [pcs]
    conv => lhs; rw [hq]
    rw [ih k (i + 1) x.f1.toNat _ (by omega) (by omega) (by omega) (by rw [← hq]; exact h3) (by rw [List.length_append, ho]; rfl)]
    simp
theorem outside_some (b : List Int) (l : List S35) (hl : l.length ≤ 1000000000) (hb : b.length ≤ 1000000000) (hv : vld b.length 0 l = true) (k : Nat) (hk : l.length < k) :
    audit_Outside.f k b l = some (pcs b 0 l) := by
  unfold audit_Outside.f
  rw [valid_some _ l (by omega) k hk, hv]
  simp only [Option.bind_some, if_true]
  have := outside_l b l hl hb l.length k 0 0 [] (by omega) hk (by omega) hv rfl
  simpa using this
theorem str_inj (a b : List Int) (ha : ∀ x ∈ a, 0 ≤ x ∧ x < 256) (hb : ∀ x ∈ b, 0 ≤ x ∧ x < 256) : ((strOfNums a).toList == (strOfNums b).toList) = decide (a = b) := by
  rw [Lib.strOfNums_toList, Lib.strOfNums_toList]
  by_cases h : a = b
  · rw [decide_eq_true h, h]
    simp
  · rw [decide_eq_false h]
    rw [beq_eq_false_iff_ne]
    intro he
    apply h
    have back : ∀ l : List Int, (∀ x ∈ l, 0 ≤ x ∧ x < 256) → (Lib.bytesOf l).map (fun b => (b.toNat : Int)) = l := by
      intro l hl
      unfold Lib.bytesOf
      rw [List.map_map]
      conv => rhs; rw [← List.map_id l]
      refine List.map_congr_left (fun x hx => ?_)
      obtain ⟨h0, h1⟩ := hl x hx
      simp only [Function.comp, id]
      rw [UInt8.toNat_ofNat']
      omega
    rw [← back a ha, ← back b hb, he]
theorem kept_l (b c : List Int) (s : List S35) (hb : b.length ≤ 1000000) (hsl : s.length ≤ 1000) (hv : vld b.length 0 s = true) (hst : sumT s ≤ 1000000) (P : List (List Int)) (hP : P = pcs b 0 s) (M : Nat) (hM : ∀ n, n ≤ M → n < 140737488355328) :
    ∀ (d k i p : Nat) (out : List Int), i + d = s.length → d + 2 < k → p ≤ b.length → vld b.length p (s.drop i) = true → P.drop i = pcs b p (s.drop i) → out.length + (b.length - p) + sumT (s.drop i) ≤ M →
    audit_Kept.l0 k c s P out P (P.length : Int) (i : Int) = some ((strOfNums (out ++ doS b p (s.drop i))).toList == (strOfNums c).toList) := by
  have hPl : P.length = s.length + 1 := by rw [hP]; exact pcs_len b s 0
  intro d
  induction d with
  | zero =>
    intro k i p out hi hk hp hv hPd hs
    obtain ⟨k, rfl⟩ : ∃ m, k = m + 1 + 1 := ⟨k - 2, by omega⟩
    have ei := rdL P i (by omega)
    have hnil : s.drop i = [] := List.drop_eq_nil_of_le (by omega)
    rw [hnil] at hPd hs ⊢
    simp only [pcs] at hPd
    rw [hPd] at ei
    have e1 := (List.cons.inj ei).1
    have hdl : out.length + (b.drop p).length < 140737488355328 := hM _ (by rw [List.length_drop]; omega)
    have hi1 : (i : Int) < (P.length : Int) := by omega
    simp only [audit_Kept.l0]
    rw [if_pos hi1, if_pos (Int.natCast_nonneg i), if_pos hi1, ← e1, if_pos hdl]
    rw [Option.bind_some]
    have n1 : ¬ ((i : Int) < (s.length : Int)) := by omega
    have n2 : ¬ (((i + 1 : Nat) : Int) < (P.length : Int)) := by omega
    have n3 : (P.length : Int) > 0 := by omega
    rw [if_neg n1]
    rw [show wrap64 ((i : Int) + 1) = ((i + 1 : Nat) : Int) by rw [w64 (by omega) (by omega)]; omega]
    rw [if_neg n2]
    rw [if_pos n3]
    simp [bytes_Equal.f, doS]
  | succ d ih =>
    intro k i p out hi hk hp hv hPd hs
    obtain ⟨k, rfl⟩ : ∃ m, k = m + 1 := ⟨k - 1, by omega⟩
    have ei := rdL P i (by omega)
    have e := rdS s i (by omega)
    obtain ⟨x, hx⟩ : ∃ x, rd_T35 s (i : Int) = x := ⟨_, rfl⟩
    rw [hx] at e
    rw [e] at hPd hs hv
    obtain ⟨h0, h1, h2, h3⟩ := vld_cons hv
    simp only [pcs] at hPd
    simp only [sumT] at hs
    rw [hPd] at ei
    obtain ⟨e1, e2⟩ := List.cons.inj ei
    have hcl := cut_len b p x.f0.toNat (by omega)
    have hq : x.f1 = (x.f1.toNat : Int) := (Int.toNat_of_nonneg (by omega)).symm
    have hdl : out.length + ((b.take x.f0.toNat).drop p).length < 140737488355328 := hM _ (by rw [hcl]; omega)
    have hdl2 : (out ++ (b.take x.f0.toNat).drop p).length + x.f2.size < 140737488355328 := hM _ (by rw [List.length_append, hcl]; omega)
    have hi1 : (i : Int) < (P.length : Int) := by omega
    simp only [audit_Kept.l0, hx]
    rw [if_pos hi1, if_pos (Int.natCast_nonneg i), if_pos hi1, ← e1, if_pos hdl]
    rw [Option.bind_some]
    rw [if_pos (show (i : Int) < (s.length : Int) by omega), if_pos hdl2, show wrap64 ((i : Int) + 1) = ((i + 1 : Nat) : Int) by rw [w64 (by omega) (by omega)]; omega]
    rw [ih k (i + 1) x.f1.toNat _ (by omega) (by omega) (by omega) (by rw [← hq]; exact h3) e2.symm (by rw [List.length_append, List.length_append, hcl, bytesOf_length]; omega), e]
    simp only [doS, List.append_assoc]
theorem bytesOf_range (t : ByteArray) : ∀ x ∈ bytesOf t, 0 ≤ x ∧ x < 256 := by
  intro x hx
  simp only [bytesOf, List.mem_map] at hx
  obtain ⟨y, _, rfl⟩ := hx
  have := y.toNat_lt
  omega
theorem doS_range (b : List Int) (hb : ∀ x ∈ b, 0 ≤ x ∧ x < 256) : ∀ (l : List S35) (p : Nat), ∀ x ∈ doS b p l, 0 ≤ x ∧ x < 256
  | [], p, x, hx => hb x (List.mem_of_mem_drop hx)
  | s :: l, p, x, hx => by
    simp only [doS, List.mem_append] at hx
    rcases hx with (hx | hx) | hx
    · exact hb x (List.mem_of_mem_take (List.mem_of_mem_drop hx))
    · exact bytesOf_range _ x hx
    · exact doS_range b hb l _ x hx
/-- Kept says whether a text is what the splices make. -/
theorem kept_some (b c : List Int) (s : List S35) (hb : b.length ≤ 1000000) (hsl : s.length ≤ 1000) (hv : vld b.length 0 s = true) (hst : sumT s ≤ 1000000) (hb2 : ∀ x ∈ b, 0 ≤ x ∧ x < 256) (hc2 : ∀ x ∈ c, 0 ≤ x ∧ x < 256) (k : Nat) (hk : s.length + 2 < k) :
    audit_Kept.f k b c s = some (decide (doS b 0 s = c)) := by
  unfold audit_Kept.f
  rw [outside_some b s (by omega) (by omega) hv k (by omega)]
  simp only [Option.bind_some]
  have := kept_l b c s hb hsl hv hst _ rfl 10000000 (fun n hn => Nat.lt_of_le_of_lt hn (by decide)) s.length k 0 0 [] (by omega) hk (by omega) hv rfl (by simp only [List.length_nil, List.drop_zero]; omega)
  rw [List.drop_zero, List.nil_append, str_inj _ _ (doS_range b hb2 s 0) hc2] at this
  exact this
theorem wf_u8_range' {x : Int} (h : (Lit.int .u8 x).wf = true) : 0 ≤ x ∧ x < 256 := by
  simp only [Lit.wf, Bool.and_eq_true, decide_eq_true_eq] at h
  have h1 : IntKind.u8.min = 0 := by decide
  have h2 : IntKind.u8.max = 255 := by decide
  omega
end Go.Proofs.Ytbaokhcadifdmaa.Pure

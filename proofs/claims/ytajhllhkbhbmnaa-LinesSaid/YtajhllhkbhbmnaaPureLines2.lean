/- Lines: the plain law, its other parts. No program. -/
import Derived.Test.YtajhllhkbhbmnaaPureLines
namespace Go.Proofs.Ytajhllhkbhbmnaa.PLines
set_option linter.unusedVariables false
set_option linter.unusedSimpArgs false
open Go.RowKit Go.Proofs.YtajhllhkbhbmnaaW.PrintWords Go.Proofs.YtajhllhkbhbmnaaW.PrintLast Go.Proofs.YtajhllhkbhbmnaaW.PrintMore

theorem may_not (l0 : List Int) (l1 : List ByteArray) (n : Int) (h : ¬ (l0.length = 2 ∧ l1.length = 2 ∧ 0 ≤ n ∧ n < 2)) : line_May.f 20 l0 l1 n = some false ∧ lichenref9_CacheMay.f 20 l0 l1 n = some false := by
  unfold line_May.f lichenref9_CacheMay.f
  by_cases a : (l0.length : Int) = 2
  · by_cases b : (l1.length : Int) = 2
    · by_cases c : n < 0
      · simp [a, b, c, line_May.j0, lichenref9_CacheMay.j0]
      · have d : decide (n ≥ 2) = true := by simp; omega
        simp [a, b, c, d, line_May.j0, lichenref9_CacheMay.j0]
    · simp [a, b, line_May.j0, lichenref9_CacheMay.j0]
  · simp [a, line_May.j0, lichenref9_CacheMay.j0]

theorem wrap_small {x : Int} (h0 : -9223372036854775808 ≤ x) (h1 : x < 9223372036854775808) : wrap64 x = x := by
  unfold wrap64
  omega

theorem sameInts_l (l : List Int) (hl : l.length < 17592186044416) : ∀ (d i : Nat), i + d = l.length → lichenlaw0_SameInts.l0 (d + 1) l l (i : Int) = some true
  | 0, i, h => by
    unfold lichenlaw0_SameInts.l0
    rw [if_neg (by omega)]
  | d + 1, i, h => by
    unfold lichenlaw0_SameInts.l0
    rw [if_pos (by omega), if_pos (by omega), if_pos (by omega), if_pos rfl, wrap_small (by omega) (by omega)]
    exact sameInts_l l hl d (i + 1) (by omega)
theorem sameTexts_l (l : List ByteArray) (hl : l.length < 17592186044416) : ∀ (d i : Nat), i + d = l.length → lichenlaw0_SameTexts.l0 (d + 1) l l (i : Int) = some true
  | 0, i, h => by
    unfold lichenlaw0_SameTexts.l0
    rw [if_neg (by omega)]
  | d + 1, i, h => by
    unfold lichenlaw0_SameTexts.l0
    rw [if_pos (by omega), if_pos (by omega), if_pos (by omega), if_pos rfl, wrap_small (by omega) (by omega)]
    exact sameTexts_l l hl d (i + 1) (by omega)

theorem sameInts_mono {k j : Nat} (hk : j ≤ k) {a b : List Int} {r : Bool} (h : lichenlaw0_SameInts.f j a b = some r) : lichenlaw0_SameInts.f k a b = some r := by
  induction hk with
  | refl => exact h
  | step _ ih => exact lichenlaw0_SameInts.mono _ _ _ _ ih
theorem sameTexts_mono {k j : Nat} (hk : j ≤ k) {a b : List ByteArray} {r : Bool} (h : lichenlaw0_SameTexts.f j a b = some r) : lichenlaw0_SameTexts.f k a b = some r := by
  induction hk with
  | refl => exact h
  | step _ ih => exact lichenlaw0_SameTexts.mono _ _ _ _ ih

theorem same_all (l0 : List Int) (l1 : List ByteArray) (n : Int) (h0 : l0.length < 17592186044416) (h1 : l1.length < 8796093022208) : lichenlaw0_SameCache.f (l0.length + l1.length + 1) l0 l1 n l0 l1 n = some true := by
  have a : lichenlaw0_SameInts.f (l0.length + 1) l0 l0 = some true := by
    unfold lichenlaw0_SameInts.f
    rw [if_pos rfl]
    exact sameInts_l l0 h0 l0.length 0 (by omega)
  have b : lichenlaw0_SameTexts.f (l1.length + 1) l1 l1 = some true := by
    unfold lichenlaw0_SameTexts.f
    rw [if_pos rfl]
    exact sameTexts_l l1 (by omega) l1.length 0 (by omega)
  unfold lichenlaw0_SameCache.f
  rw [sameInts_mono (by omega) a, sameTexts_mono (by omega) b]
  simp

theorem spoil_two (a b : Int) (c d : ByteArray) (n : Int) (hc : c.size ≤ 16) (hd : d.size ≤ 16) : ∃ q, lichenlaw0_SpoilCache.f 20 [a, b] [c, d] n = some q := by
  have e1 : rdOf ByteArray.empty [c, d] 0 = c := rfl
  have e2 : ∀ x, rdOf ByteArray.empty [x, d] 1 = d := fun _ => rfl
  have hc' : 1 + c.size ≤ 9223372036854775807 := by omega
  have hd' : 1 + d.size ≤ 9223372036854775807 := by omega
  unfold lichenlaw0_SpoilCache.f lichenlaw0_SpoilInts.f lichenlaw0_SpoilTexts.f
  simp [lichenlaw0_SpoilInts.l0, lichenlaw0_SpoilTexts.l0, w1, w2, e1, e2, hc', hd']
theorem spoil_none (n : Int) : ∃ q, lichenlaw0_SpoilCache.f 20 [] [] n = some q := by
  unfold lichenlaw0_SpoilCache.f lichenlaw0_SpoilInts.f lichenlaw0_SpoilTexts.f
  simp [lichenlaw0_SpoilInts.l0, lichenlaw0_SpoilTexts.l0]

end Go.Proofs.Ytajhllhkbhbmnaa.PLines

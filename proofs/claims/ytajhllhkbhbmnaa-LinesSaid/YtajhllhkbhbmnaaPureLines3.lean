/- Lines: the plain law: Keep and Find. No program. -/
import Derived.Test.YtajhllhkbhbmnaaPureLines2
namespace Go.Proofs.Ytajhllhkbhbmnaa.PLines
set_option linter.unusedVariables false
set_option linter.unusedSimpArgs false
open Go.RowKit Go.Proofs.YtajhllhkbhbmnaaW.PrintWords Go.Proofs.YtajhllhkbhbmnaaW.PrintLast Go.Proofs.YtajhllhkbhbmnaaW.PrintMore

def Small (R1 : List Int) (R2 : List ByteArray) : Prop := (R1 = [] ∧ R2 = []) ∨ ∃ a b c d, R1 = [a, b] ∧ R2 = [c, d] ∧ c.size ≤ 16 ∧ d.size ≤ 16

theorem okRow.size {x : Int} {y : ByteArray} (h : okRow x y) : y.size ≤ 16 := by
  rcases h with ⟨-, h⟩ | ⟨-, -, h⟩
  · have : y.data.toList = [] := by simpa [ByteArray.toList_eq] using h
    have h2 : y.data = #[] := by simpa using this
    have : y.size = 0 := by simp [ByteArray.size, h2]
    omega
  · omega

set_option maxHeartbeats 4000000 in
theorem keep_two (x0 x1 : Int) (y0 y1 : ByteArray) (n p : Int) (s : ByteArray) (n0 : 0 ≤ n) (n1 : n < 2) (hm : line_May.f 20 [x0, x1] [y0, y1] n = some true) (hm' : lichenref9_CacheMay.f 20 [x0, x1] [y0, y1] n = some true)
    (k0 : okRow x0 y0) (k1 : okRow x1 y1) (hx : x0 = x1 → x0 = -1) :
    ∃ R1 R2 R3 R4, keepF 20 [x0, x1] [y0, y1] n p s = some (R1, R2, R3, R4) ∧ lichenref9_Keep.f 20 [x0, x1] [y0, y1] n p s = some (R1, R2, R3, R4) ∧ Small R1 R2 := by
  obtain ⟨b, hb⟩ := begins_some p
  have hl : lichenref9_lineAt.f = line_begins.f := rfl
  cases b with
  | false => exact ⟨[], [], 0, 1200, by simp [keepF, hm, hb], by simp [lichenref9_Keep.f, hm', hl, hb, lichenref9_Keep.j0], .inl ⟨rfl, rfl⟩⟩
  | true =>
    by_cases hs : (s.size : Int) = 16
    · have hi := idxk x0 x1 p 10
      obtain ⟨p0, p1, p2⟩ := begins_true hb
      have hs' : s.size ≤ 16 := by omega
      have hsb : ((s.size : Int) != 16) = false := by simp [hs]
      have z0 := k0.size
      have z1 := k1.size
      by_cases q0 : p = x0
      · have q1 : ¬ x1 = p := by
          intro h; subst q0; subst h; have := hx rfl; omega
        subst q0
        refine ⟨[p, x1], [s, y1], n, 0, ?_, ?_, .inr ⟨_, _, _, _, rfl, rfl, hs', z1⟩⟩
        · simp [keepF, hm, hb, hs, hi]
        · simp [lichenref9_Keep.f, hm', hl, hb, hsb, lichenref9_Keep.j0, lichenref9_Keep.l0, rd, w1, w2, q1]
      · by_cases q1 : p = x1
        · have q2 : ¬ x0 = p := fun h => q0 h.symm
          subst q1
          refine ⟨[x0, p], [y0, s], n, 0, ?_, ?_, .inr ⟨_, _, _, _, rfl, rfl, z0, hs'⟩⟩
          · simp [keepF, hm, hb, hs, hi, q0]
          · simp [lichenref9_Keep.f, hm', hl, hb, hsb, lichenref9_Keep.j0, lichenref9_Keep.l0, rd, w1, w2, q2]
        · have q2 : ¬ x0 = p := fun h => q0 h.symm
          have q3 : ¬ x1 = p := fun h => q1 h.symm
          have hn : n = 0 ∨ n = 1 := by omega
          rcases hn with rfl | rfl
          · refine ⟨[p, x1], [s, y1], 1, 0, ?_, ?_, .inr ⟨_, _, _, _, rfl, rfl, hs', z1⟩⟩
            · simp [keepF, hm, hb, hs, hi, q0, q1]
            · simp [lichenref9_Keep.f, hm', hl, hb, hsb, lichenref9_Keep.j0, lichenref9_Keep.l0, rd, w1, w2, q2, q3]
          · refine ⟨[x0, p], [y0, s], 0, 0, ?_, ?_, .inr ⟨_, _, _, _, rfl, rfl, z0, hs'⟩⟩
            · simp [keepF, hm, hb, hs, hi, q0, q1]
            · simp [lichenref9_Keep.f, hm', hl, hb, hsb, lichenref9_Keep.j0, lichenref9_Keep.l0, rd, w1, w2, q2, q3]
    · have hsb : ((s.size : Int) != 16) = true := by simp [hs]
      exact ⟨[], [], 0, 1200, by simp [keepF, hm, hb, hs], by simp [lichenref9_Keep.f, hm', hl, hb, hsb, lichenref9_Keep.j0], .inl ⟨rfl, rfl⟩⟩

theorem skip0 (k : Nat) (q x0 x1 n : Int) (y0 y1 : ByteArray) (hb : x0 < 4096) (h : ¬ (x0 ≥ 0 ∧ q ≥ x0 ∧ q < x0 + 16)) : lichenref9_FindLine.l0 (k + 1) q 0 [x0, x1] [y0, y1] n = lichenref9_FindLine.l0 k q 1 [x0, x1] [y0, y1] n := by
  have e3 : rd [x0, x1] 0 = x0 := rfl
  conv => lhs; unfold lichenref9_FindLine.l0
  by_cases a : x0 ≥ 0
  · have hw : wrap64 (x0 + 16) = x0 + 16 := wrap_small (by omega) (by omega)
    by_cases b : q ≥ x0
    · have c : ¬ q < x0 + 16 := fun c => h ⟨a, b, c⟩
      simp [e3, a, b, c, w1, hw]
    · simp [e3, a, b, w1]
  · simp [e3, a, w1]
theorem skip1 (k : Nat) (q x0 x1 n : Int) (y0 y1 : ByteArray) (hb : x1 < 4096) (h : ¬ (x1 ≥ 0 ∧ q ≥ x1 ∧ q < x1 + 16)) : lichenref9_FindLine.l0 (k + 2) q 1 [x0, x1] [y0, y1] n = some (0, false) := by
  have e3 : rd [x0, x1] 1 = x1 := rfl
  have e : lichenref9_FindLine.l0 (k + 1) q 2 [x0, x1] [y0, y1] n = some (0, false) := by simp [lichenref9_FindLine.l0]
  conv => lhs; unfold lichenref9_FindLine.l0
  by_cases a : x1 ≥ 0
  · have hw : wrap64 (x1 + 16) = x1 + 16 := wrap_small (by omega) (by omega)
    by_cases b : q ≥ x1
    · have c : ¬ q < x1 + 16 := fun c => h ⟨a, b, c⟩
      simp [e3, a, b, c, w2, hw, e]
    · simp [e3, a, b, w2, e]
  · simp [e3, a, w2, e]

theorem okRow.x {x : Int} {y : ByteArray} (h : okRow x y) : x = -1 ∨ (0 ≤ x ∧ x < 4096 ∧ x % 16 = 0 ∧ (y.size : Int) = 16) := by
  rcases h with ⟨h, -⟩ | ⟨-, h, hs⟩
  · exact .inl h
  · obtain ⟨a, b, c⟩ := begins_true h
    rw [Int.tmod_eq_emod_of_nonneg a] at c
    exact .inr ⟨a, b, c, hs⟩

set_option maxHeartbeats 4000000 in
theorem find_two (x0 x1 : Int) (y0 y1 : ByteArray) (n q : Int) (hq : q < 9223372036854775808) (hm : line_May.f 20 [x0, x1] [y0, y1] n = some true) (hm' : lichenref9_CacheMay.f 20 [x0, x1] [y0, y1] n = some true)
    (k0 : okRow x0 y0) (k1 : okRow x1 y1) (hx : x0 = x1 → x0 = -1) :
    ∃ r is, line_Find.f 20 [x0, x1] [y0, y1] n q = some (r, is) ∧ lichenref9_FindLine.f 20 [x0, x1] [y0, y1] n q = some (r, is) := by
  have h0 := k0.x
  have h1 := k1.x
  by_cases hq0 : q < 0
  · refine ⟨0, false, ?_, ?_⟩
    · simp [line_Find.f, hm, line_Find.j0, hq0]
    · have e : lichenref9_FindLine.l0 20 q 0 [x0, x1] [y0, y1] n = some (0, false) := by
        rw [skip0 19 q x0 x1 n y0 y1 (by omega) (by omega), skip1 17 q x0 x1 n y0 y1 (by omega) (by omega)]
      simp [lichenref9_FindLine.f, hm', e]
  · have ht : q.tmod 16 = q % 16 := Int.tmod_eq_emod_of_nonneg (by omega)
    have hw : wrap64 (q - q % 16) = q - q % 16 := wrap_small (by omega) (by omega)
    have hi := idxk x0 x1 (q - q % 16) 9
    have g0 : 0 ≤ q % 16 := by omega
    by_cases f0 : q - q % 16 = x0
    · have hs : (y0.size : Int) = 16 := by omega
      refine ⟨wrap64 (bt y0 (q % 16)), true, ?_, ?_⟩
      · have g1 : q % 16 < (y0.size : Int) := by omega
        have hwx : wrap64 x0 = x0 := wrap_small (by omega) (by omega)
        have hix := idxk x0 x1 x0 9
        simp [line_Find.f, hm, line_Find.j0, hq0, line_First.f, ht, hwx, hix, f0, rdOf, g0, g1]
      · have hw1 : wrap64 (x0 + 16) = x0 + 16 := wrap_small (by omega) (by omega)
        have hw2 : wrap64 (q - x0) = q % 16 := by rw [wrap_small (by omega) (by omega)]; omega
        have g1 : q % 16 < (y0.size : Int) := by omega
        have a : x0 ≥ 0 := by omega
        have b : q ≥ x0 := by omega
        have c : q < x0 + 16 := by omega
        have e3 : rd [x0, x1] 0 = x0 := rfl
        simp [lichenref9_FindLine.f, hm', lichenref9_FindLine.l0, e3, a, b, c, hw1, hw2, rdOf, g0, g1]
    · by_cases f1 : q - q % 16 = x1
      · have hs : (y1.size : Int) = 16 := by omega
        refine ⟨wrap64 (bt y1 (q % 16)), true, ?_, ?_⟩
        · have g1 : q % 16 < (y1.size : Int) := by omega
          have f2 : ¬ x1 = x0 := by omega
          have hwx : wrap64 x1 = x1 := wrap_small (by omega) (by omega)
          have hix := idxk x0 x1 x1 9
          simp [line_Find.f, hm, line_Find.j0, hq0, line_First.f, ht, hwx, hix, f1, f2, rdOf, g0, g1]
        · have hw1 : wrap64 (x1 + 16) = x1 + 16 := wrap_small (by omega) (by omega)
          have hw2 : wrap64 (q - x1) = q % 16 := by rw [wrap_small (by omega) (by omega)]; omega
          have g1 : q % 16 < (y1.size : Int) := by omega
          have a : x1 ≥ 0 := by omega
          have b : q ≥ x1 := by omega
          have c : q < x1 + 16 := by omega
          have e3 : rd [x0, x1] 1 = x1 := rfl
          have e : lichenref9_FindLine.l0 20 q 0 [x0, x1] [y0, y1] n = some (wrap64 (bt y1 (q % 16)), true) := by
            rw [skip0 19 q x0 x1 n y0 y1 (by omega) (by omega)]
            simp [lichenref9_FindLine.l0, e3, a, b, c, hw1, hw2, rdOf, g0, g1]
          simp [lichenref9_FindLine.f, hm', e]
      · refine ⟨0, false, ?_, ?_⟩
        · simp [line_Find.f, hm, line_Find.j0, hq0, line_First.f, ht, hw, hi, f0, f1]
        · have e : lichenref9_FindLine.l0 20 q 0 [x0, x1] [y0, y1] n = some (0, false) := by
            rw [skip0 19 q x0 x1 n y0 y1 (by omega) (by omega), skip1 17 q x0 x1 n y0 y1 (by omega) (by omega)]
          simp [lichenref9_FindLine.f, hm', e]

end Go.Proofs.Ytajhllhkbhbmnaa.PLines

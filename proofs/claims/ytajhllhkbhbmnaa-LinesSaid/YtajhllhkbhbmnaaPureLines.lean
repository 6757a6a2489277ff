/- Lines: the plain law: what the program's functions answer is what the document's answer. No program. -/
import Derived.Test.YtajhllhkbhbmnaaLines2
namespace Go.Proofs.Ytajhllhkbhbmnaa.PLines
set_option linter.unusedVariables false
set_option linter.unusedSimpArgs false
open Go.RowKit Go.Proofs.YtajhllhkbhbmnaaW.PrintWords Go.Proofs.YtajhllhkbhbmnaaW.PrintLast Go.Proofs.YtajhllhkbhbmnaaW.PrintMore

theorem lineAt_eq (x : Int) : lichenref9_lineAt.f x = line_begins.f x := rfl
theorem begins_true {x : Int} (h : line_begins.f x = some true) : 0 ≤ x ∧ x < 4096 ∧ x.tmod 16 = 0 := by
  unfold line_begins.f at h
  split at h
  · split at h
    · simp at h; omega
    · simp at h
  · simp at h

theorem w1 : wrap64 1 = 1 := by kernel_rfl
theorem w2 : wrap64 2 = 2 := by kernel_rfl

theorem idxk (x0 x1 p : Int) (k : Nat) : slices_Index_int_int.f (k + 10) [x0, x1] p = some (if p = x0 then 0 else if p = x1 then 1 else -1) := by
  by_cases h0 : p = x0
  · simp [slices_Index_int_int.f, slices_Index_int_int.l0, rd, h0]
  · by_cases h1 : p = x1
    · simp [slices_Index_int_int.f, slices_Index_int_int.l0, rd, h0, h1, w1]
      split <;> rfl
    · simp [slices_Index_int_int.f, slices_Index_int_int.l0, rd, h0, h1, w1, w2]

def okRow (x : Int) (y : ByteArray) : Prop := (x = -1 ∧ y.toList = []) ∨ (x ≠ -1 ∧ line_begins.f x = some true ∧ (y.size : Int) = 16)

set_option maxHeartbeats 4000000 in
set_option maxHeartbeats 4000000 in
set_option maxHeartbeats 4000000 in
theorem may_two (x0 x1 : Int) (y0 y1 : ByteArray) (n : Int) (n0 : 0 ≤ n) (n1 : n < 2) :
    ∃ m, line_May.f 20 [x0, x1] [y0, y1] n = some m ∧ lichenref9_CacheMay.f 20 [x0, x1] [y0, y1] n = some m ∧ (m = true → okRow x0 y0 ∧ okRow x1 y1 ∧ (x0 = x1 → x0 = -1)) := by
  obtain ⟨b0, hb0⟩ := begins_some x0
  obtain ⟨b1, hb1⟩ := begins_some x1
  have hn0 : ¬ n < 0 := by omega
  have hn1 : decide (n ≥ 2) = false := by simp; omega
  have hm : line_begins.f (-1) = some false := by decide
  have e1 : ∀ a b : ByteArray, rdOf ByteArray.empty [a, b] 0 = a := fun _ _ => rfl
  have e2 : ∀ a b : ByteArray, rdOf ByteArray.empty [a, b] 1 = b := fun _ _ => rfl
  have e3 : ∀ a b : Int, rd [a, b] 0 = a := fun _ _ => rfl
  have e4 : ∀ a b : Int, rd [a, b] 1 = b := fun _ _ => rfl
  have hi19 : ∀ x0 x1 p, slices_Index_int_int.f 19 [x0, x1] p = some (if p = x0 then 0 else if p = x1 then 1 else -1) := fun x0 x1 p => idxk x0 x1 p 9
  have hi18 : ∀ x0 x1 p, slices_Index_int_int.f 18 [x0, x1] p = some (if p = x0 then 0 else if p = x1 then 1 else -1) := fun x0 x1 p => idxk x0 x1 p 8
  have hi17 : ∀ x0 x1 p, slices_Index_int_int.f 17 [x0, x1] p = some (if p = x0 then 0 else if p = x1 then 1 else -1) := fun x0 x1 p => idxk x0 x1 p 7
  have hi16 : ∀ x0 x1 p, slices_Index_int_int.f 16 [x0, x1] p = some (if p = x0 then 0 else if p = x1 then 1 else -1) := fun x0 x1 p => idxk x0 x1 p 6
  have hl : lichenref9_lineAt.f = line_begins.f := rfl
  have hi15 : ∀ x0 x1 p, slices_Index_int_int.f 15 [x0, x1] p = some (if p = x0 then 0 else if p = x1 then 1 else -1) := fun x0 x1 p => idxk x0 x1 p 5
  unfold okRow
  by_cases a0 : x0 = -1
  · by_cases d0 : y0.toList = []
    · by_cases a1 : x1 = -1
      · by_cases d1 : y1.toList = []
        · refine ⟨true, ?_, ?_, ?_⟩
          · simp [line_May.f, line_May.j0, line_May.l0, lichenref9_CacheMay.f, lichenref9_CacheMay.j0, lichenref9_CacheMay.l0, lichenref9_CacheMay.j2, lichenref9_CacheMay.j3, lichenref9_CacheMay.l1, w1, w2, e1, e2, e3, e4, hi19, hi18, hi17, hi16, hl, hm, hn0, hn1, a0, d0, a1, d1, hi15]
          · simp [line_May.f, line_May.j0, line_May.l0, lichenref9_CacheMay.f, lichenref9_CacheMay.j0, lichenref9_CacheMay.l0, lichenref9_CacheMay.j2, lichenref9_CacheMay.j3, lichenref9_CacheMay.l1, w1, w2, e1, e2, e3, e4, hi19, hi18, hi17, hi16, hl, hm, hn0, hn1, a0, d0, a1, d1, hi15]
          · simp [a0, d0, a1, d1]
        · refine ⟨false, ?_, ?_, ?_⟩
          · simp [line_May.f, line_May.j0, line_May.l0, lichenref9_CacheMay.f, lichenref9_CacheMay.j0, lichenref9_CacheMay.l0, lichenref9_CacheMay.j2, lichenref9_CacheMay.j3, lichenref9_CacheMay.l1, w1, w2, e1, e2, e3, e4, hi19, hi18, hi17, hi16, hl, hm, hn0, hn1, a0, d0, a1, d1, hi15]
          · simp [line_May.f, line_May.j0, line_May.l0, lichenref9_CacheMay.f, lichenref9_CacheMay.j0, lichenref9_CacheMay.l0, lichenref9_CacheMay.j2, lichenref9_CacheMay.j3, lichenref9_CacheMay.l1, w1, w2, e1, e2, e3, e4, hi19, hi18, hi17, hi16, hl, hm, hn0, hn1, a0, d0, a1, d1, hi15]
          · simp
      · cases b1
        · refine ⟨false, ?_, ?_, ?_⟩
          · simp [line_May.f, line_May.j0, line_May.l0, lichenref9_CacheMay.f, lichenref9_CacheMay.j0, lichenref9_CacheMay.l0, lichenref9_CacheMay.j2, lichenref9_CacheMay.j3, lichenref9_CacheMay.l1, w1, w2, e1, e2, e3, e4, hi19, hi18, hi17, hi16, hl, hm, hn0, hn1, a0, d0, a1, hb1, hi15]
          · simp [line_May.f, line_May.j0, line_May.l0, lichenref9_CacheMay.f, lichenref9_CacheMay.j0, lichenref9_CacheMay.l0, lichenref9_CacheMay.j2, lichenref9_CacheMay.j3, lichenref9_CacheMay.l1, w1, w2, e1, e2, e3, e4, hi19, hi18, hi17, hi16, hl, hm, hn0, hn1, a0, d0, a1, hb1, hi15]
          · simp
        · by_cases z1 : (y1.size : Int) = 16
          · by_cases q : x1 = x0
            · exact absurd (q.trans a0) a1
            · refine ⟨true, ?_, ?_, ?_⟩
              · simp [line_May.f, line_May.j0, line_May.l0, lichenref9_CacheMay.f, lichenref9_CacheMay.j0, lichenref9_CacheMay.l0, lichenref9_CacheMay.j2, lichenref9_CacheMay.j3, lichenref9_CacheMay.l1, w1, w2, e1, e2, e3, e4, hi19, hi18, hi17, hi16, hl, hm, hn0, hn1, a0, d0, a1, hb1, z1, q, (show ¬ x0 = x1 from fun h => q h.symm), (show ¬ (-1 : Int) = x1 from fun h => a1 h.symm), hi15]
              · simp [line_May.f, line_May.j0, line_May.l0, lichenref9_CacheMay.f, lichenref9_CacheMay.j0, lichenref9_CacheMay.l0, lichenref9_CacheMay.j2, lichenref9_CacheMay.j3, lichenref9_CacheMay.l1, w1, w2, e1, e2, e3, e4, hi19, hi18, hi17, hi16, hl, hm, hn0, hn1, a0, d0, a1, hb1, z1, q, (show ¬ x0 = x1 from fun h => q h.symm), (show ¬ (-1 : Int) = x1 from fun h => a1 h.symm), hi15]
              · simp [a0, d0, a1, hb1, z1, q, (show ¬ x0 = x1 from fun h => q h.symm), (show ¬ (-1 : Int) = x1 from fun h => a1 h.symm)]
          · refine ⟨false, ?_, ?_, ?_⟩
            · simp [line_May.f, line_May.j0, line_May.l0, lichenref9_CacheMay.f, lichenref9_CacheMay.j0, lichenref9_CacheMay.l0, lichenref9_CacheMay.j2, lichenref9_CacheMay.j3, lichenref9_CacheMay.l1, w1, w2, e1, e2, e3, e4, hi19, hi18, hi17, hi16, hl, hm, hn0, hn1, a0, d0, a1, hb1, z1, hi15]
            · simp [line_May.f, line_May.j0, line_May.l0, lichenref9_CacheMay.f, lichenref9_CacheMay.j0, lichenref9_CacheMay.l0, lichenref9_CacheMay.j2, lichenref9_CacheMay.j3, lichenref9_CacheMay.l1, w1, w2, e1, e2, e3, e4, hi19, hi18, hi17, hi16, hl, hm, hn0, hn1, a0, d0, a1, hb1, z1, hi15]
            · simp
    · refine ⟨false, ?_, ?_, ?_⟩
      · simp [line_May.f, line_May.j0, line_May.l0, lichenref9_CacheMay.f, lichenref9_CacheMay.j0, lichenref9_CacheMay.l0, lichenref9_CacheMay.j2, lichenref9_CacheMay.j3, lichenref9_CacheMay.l1, w1, w2, e1, e2, e3, e4, hi19, hi18, hi17, hi16, hl, hm, hn0, hn1, a0, d0, hi15]
      · simp [line_May.f, line_May.j0, line_May.l0, lichenref9_CacheMay.f, lichenref9_CacheMay.j0, lichenref9_CacheMay.l0, lichenref9_CacheMay.j2, lichenref9_CacheMay.j3, lichenref9_CacheMay.l1, w1, w2, e1, e2, e3, e4, hi19, hi18, hi17, hi16, hl, hm, hn0, hn1, a0, d0, hi15]
      · simp
  · cases b0
    · refine ⟨false, ?_, ?_, ?_⟩
      · simp [line_May.f, line_May.j0, line_May.l0, lichenref9_CacheMay.f, lichenref9_CacheMay.j0, lichenref9_CacheMay.l0, lichenref9_CacheMay.j2, lichenref9_CacheMay.j3, lichenref9_CacheMay.l1, w1, w2, e1, e2, e3, e4, hi19, hi18, hi17, hi16, hl, hm, hn0, hn1, a0, hb0, hi15]
      · simp [line_May.f, line_May.j0, line_May.l0, lichenref9_CacheMay.f, lichenref9_CacheMay.j0, lichenref9_CacheMay.l0, lichenref9_CacheMay.j2, lichenref9_CacheMay.j3, lichenref9_CacheMay.l1, w1, w2, e1, e2, e3, e4, hi19, hi18, hi17, hi16, hl, hm, hn0, hn1, a0, hb0, hi15]
      · simp
    · by_cases z0 : (y0.size : Int) = 16
      · by_cases a1 : x1 = -1
        · by_cases d1 : y1.toList = []
          · refine ⟨true, ?_, ?_, ?_⟩
            · simp [line_May.f, line_May.j0, line_May.l0, lichenref9_CacheMay.f, lichenref9_CacheMay.j0, lichenref9_CacheMay.l0, lichenref9_CacheMay.j2, lichenref9_CacheMay.j3, lichenref9_CacheMay.l1, w1, w2, e1, e2, e3, e4, hi19, hi18, hi17, hi16, hl, hm, hn0, hn1, a0, hb0, z0, a1, d1, hi15]
            · simp [line_May.f, line_May.j0, line_May.l0, lichenref9_CacheMay.f, lichenref9_CacheMay.j0, lichenref9_CacheMay.l0, lichenref9_CacheMay.j2, lichenref9_CacheMay.j3, lichenref9_CacheMay.l1, w1, w2, e1, e2, e3, e4, hi19, hi18, hi17, hi16, hl, hm, hn0, hn1, a0, hb0, z0, a1, d1, hi15]
            · simp [a0, hb0, z0, a1, d1]
          · refine ⟨false, ?_, ?_, ?_⟩
            · simp [line_May.f, line_May.j0, line_May.l0, lichenref9_CacheMay.f, lichenref9_CacheMay.j0, lichenref9_CacheMay.l0, lichenref9_CacheMay.j2, lichenref9_CacheMay.j3, lichenref9_CacheMay.l1, w1, w2, e1, e2, e3, e4, hi19, hi18, hi17, hi16, hl, hm, hn0, hn1, a0, hb0, z0, a1, d1, hi15]
            · simp [line_May.f, line_May.j0, line_May.l0, lichenref9_CacheMay.f, lichenref9_CacheMay.j0, lichenref9_CacheMay.l0, lichenref9_CacheMay.j2, lichenref9_CacheMay.j3, lichenref9_CacheMay.l1, w1, w2, e1, e2, e3, e4, hi19, hi18, hi17, hi16, hl, hm, hn0, hn1, a0, hb0, z0, a1, d1, hi15]
            · simp
        · cases b1
          · refine ⟨false, ?_, ?_, ?_⟩
            · simp [line_May.f, line_May.j0, line_May.l0, lichenref9_CacheMay.f, lichenref9_CacheMay.j0, lichenref9_CacheMay.l0, lichenref9_CacheMay.j2, lichenref9_CacheMay.j3, lichenref9_CacheMay.l1, w1, w2, e1, e2, e3, e4, hi19, hi18, hi17, hi16, hl, hm, hn0, hn1, a0, hb0, z0, a1, hb1, hi15]
            · simp [line_May.f, line_May.j0, line_May.l0, lichenref9_CacheMay.f, lichenref9_CacheMay.j0, lichenref9_CacheMay.l0, lichenref9_CacheMay.j2, lichenref9_CacheMay.j3, lichenref9_CacheMay.l1, w1, w2, e1, e2, e3, e4, hi19, hi18, hi17, hi16, hl, hm, hn0, hn1, a0, hb0, z0, a1, hb1, hi15]
            · simp
          · by_cases z1 : (y1.size : Int) = 16
            · by_cases q : x1 = x0
              · refine ⟨false, ?_, ?_, ?_⟩
                · simp [line_May.f, line_May.j0, line_May.l0, lichenref9_CacheMay.f, lichenref9_CacheMay.j0, lichenref9_CacheMay.l0, lichenref9_CacheMay.j2, lichenref9_CacheMay.j3, lichenref9_CacheMay.l1, w1, w2, e1, e2, e3, e4, hi19, hi18, hi17, hi16, hl, hm, hn0, hn1, a0, hb0, z0, a1, hb1, z1, q, hi15]
                · simp [line_May.f, line_May.j0, line_May.l0, lichenref9_CacheMay.f, lichenref9_CacheMay.j0, lichenref9_CacheMay.l0, lichenref9_CacheMay.j2, lichenref9_CacheMay.j3, lichenref9_CacheMay.l1, w1, w2, e1, e2, e3, e4, hi19, hi18, hi17, hi16, hl, hm, hn0, hn1, a0, hb0, z0, a1, hb1, z1, q, hi15]
                · simp
              · refine ⟨true, ?_, ?_, ?_⟩
                · simp [line_May.f, line_May.j0, line_May.l0, lichenref9_CacheMay.f, lichenref9_CacheMay.j0, lichenref9_CacheMay.l0, lichenref9_CacheMay.j2, lichenref9_CacheMay.j3, lichenref9_CacheMay.l1, w1, w2, e1, e2, e3, e4, hi19, hi18, hi17, hi16, hl, hm, hn0, hn1, a0, hb0, z0, a1, hb1, z1, q, (show ¬ x0 = x1 from fun h => q h.symm), (show ¬ (-1 : Int) = x1 from fun h => a1 h.symm), hi15]
                · simp [line_May.f, line_May.j0, line_May.l0, lichenref9_CacheMay.f, lichenref9_CacheMay.j0, lichenref9_CacheMay.l0, lichenref9_CacheMay.j2, lichenref9_CacheMay.j3, lichenref9_CacheMay.l1, w1, w2, e1, e2, e3, e4, hi19, hi18, hi17, hi16, hl, hm, hn0, hn1, a0, hb0, z0, a1, hb1, z1, q, (show ¬ x0 = x1 from fun h => q h.symm), (show ¬ (-1 : Int) = x1 from fun h => a1 h.symm), hi15]
                · simp [a0, hb0, z0, a1, hb1, z1, q, (show ¬ x0 = x1 from fun h => q h.symm), (show ¬ (-1 : Int) = x1 from fun h => a1 h.symm)]
            · refine ⟨false, ?_, ?_, ?_⟩
              · simp [line_May.f, line_May.j0, line_May.l0, lichenref9_CacheMay.f, lichenref9_CacheMay.j0, lichenref9_CacheMay.l0, lichenref9_CacheMay.j2, lichenref9_CacheMay.j3, lichenref9_CacheMay.l1, w1, w2, e1, e2, e3, e4, hi19, hi18, hi17, hi16, hl, hm, hn0, hn1, a0, hb0, z0, a1, hb1, z1, hi15]
              · simp [line_May.f, line_May.j0, line_May.l0, lichenref9_CacheMay.f, lichenref9_CacheMay.j0, lichenref9_CacheMay.l0, lichenref9_CacheMay.j2, lichenref9_CacheMay.j3, lichenref9_CacheMay.l1, w1, w2, e1, e2, e3, e4, hi19, hi18, hi17, hi16, hl, hm, hn0, hn1, a0, hb0, z0, a1, hb1, z1, hi15]
              · simp
      · refine ⟨false, ?_, ?_, ?_⟩
        · simp [line_May.f, line_May.j0, line_May.l0, lichenref9_CacheMay.f, lichenref9_CacheMay.j0, lichenref9_CacheMay.l0, lichenref9_CacheMay.j2, lichenref9_CacheMay.j3, lichenref9_CacheMay.l1, w1, w2, e1, e2, e3, e4, hi19, hi18, hi17, hi16, hl, hm, hn0, hn1, a0, hb0, z0, hi15]
        · simp [line_May.f, line_May.j0, line_May.l0, lichenref9_CacheMay.f, lichenref9_CacheMay.j0, lichenref9_CacheMay.l0, lichenref9_CacheMay.j2, lichenref9_CacheMay.j3, lichenref9_CacheMay.l1, w1, w2, e1, e2, e3, e4, hi19, hi18, hi17, hi16, hl, hm, hn0, hn1, a0, hb0, z0, hi15]
        · simp

end Go.Proofs.Ytajhllhkbhbmnaa.PLines
